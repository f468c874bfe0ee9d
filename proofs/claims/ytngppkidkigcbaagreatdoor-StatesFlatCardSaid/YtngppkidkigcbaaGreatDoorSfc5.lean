/-
  Parts of the proof: N1 T3 P7 A15 B0 A16 A1 A2 A3 P1 P2 A4 P4 A5 P3 P8 P9 C1 C2 A6 A7 P10 A8 A9 C3 Q1 Q3 C4 C5 C6 C7 Q4 A22 C8 A10 A11 A12a D1 A12 A13 D2 D3 A14 D4 A18 A19 A20 A21 C9a. Conditions: none.
-/
import Derived.Test.YtngppkidkigcbaaGreatDoorSfc3
import Derived.Test.YtngppkidkigcbaaGreatDoorChecked
import Derived.Shelf.SlSortCmp.NoneTotal
import Derived.Shelf.Lay
import Derived.Ground.SlsfProg
import Derived.Shelf.SortM.Plain
import Derived.Shelf.SortM.SortNone
import Derived.Ground.SlgmProg
set_option maxRecDepth 100000
set_option maxHeartbeats 40000000
namespace Go.Proofs
open Go Go.Lib Go.RowKit Go.Shelf Go.Sort
shelf_lay_g SlLaysF0.n6 Slsf 6 at Tryz 162 as Tryz.sortPass
shelf_lay_g SlLaysF0.n6 Slsf 6 at Tryz 164 as Tryz.sortLoop
shelf_lay_g SlLaysM.n5 Slgm 5 at Tryz 167 as Tryz.sortInts
end Go.Proofs
namespace Go.Proofs.YtngppkidkigcbaaGreatDoor.V
open Go
def Pp:AK
 | []=>some (True,.bool true)
 |_=>none
def SV.roT(own:List Blk):SV->Option SV
 |.tup a=>(a.mapM (SV.roA own)).map .tup
 |s=>s.roA own
theorem d0u{w:World}{μ:Mu}{g:Nat}{X A:Nat->Prop}{own:List Blk}(j:Own g X A w μ own){s t:SV}{v:Value}(c:D w (held A μ) μ s v)(a:s.roT own=some t):D w A BM t v:=by
 have b:∀{s t:SV} {v:Value},D w (held A μ) μ s v->s.roA own=some t->D w A BM t v:=λh e=>VI j (λ_ _ h=>h) (A':=A) (λ_ h=>.inl h) h e (λ_ _ h=>h);unfold SV.roT at a;split at a
 .rename_i k;simp only[In]at a;obtain⟨ts,l,rfl⟩:=a;obtain⟨l1,m⟩:=MY l;cases c with
  |tup n o c=>
   refine .tup n (by rw[o,l1]) (λi t v ht q=> ?_);have d:i<k.length:=Gg;obtain⟨y,f,e⟩:=m i _ (Ig d);rw[ht]at f;cases f;exact b (c i _ v (Ig d) q) e
 .exact b c a
theorem c4x{f:FuncId}{k d:AK}(h:PS f k)(hs:∀a b s,d a=some (b,s)->b->∃q,k a=some (q,s)/\q):PS f d:=⟨h.1,λA w a c b s g i j e l=>by obtain⟨q,m,n⟩:=hs a b s e l;exact h.2 A w a c q s g i j m n⟩
theorem ps_le{f:FuncId}{k g:AK}(h:PS f k)(hs:∀a b s,g a=some (b,s)->b->∃q d,k a=some (q,d)/\q/\d.le2 s):PS f g:=⟨h.1,λA w a c b s i j l e m=>by obtain⟨q,d,n,o,p⟩:=hs a b s e m;refine(h.2 A w a c q d i j l n o).mono ?_;rintro e w' ⟨v,rfl,r,t⟩;exact⟨v,rfl,Pi r p,t⟩⟩
def HK.view(h:HK):AK:=λa=>(h a []).bind λr=>(r.res.roT r.own).map λs=>(r.pre,s)
theorem d8m{f:FuncId}{h:HK}(H:HS f h):PS f h.view:=by
 refine⟨H.1,λA w d j pre s m n o a y=> ?_⟩;simp only[HK.view,Ip,Hx]at a;obtain⟨r,z,t,B,rfl,rfl⟩:=a;have C:∀b,held A BM b->A b:=λb l=>by
  rcases l with l|⟨k,x,a,_⟩
  .exact l
  .cases a
 have p:Keeps w w A (held A BM) BM BM:=⟨Ir _,λ_ _ _=>rfl,λb _ l=>C b l,λ_ _ h=>h⟩
 have E:Own 0 (λ_=>True) A w BM []:=by
  refine⟨?_,?_,?_,m⟩
  .intro k x a;cases a
  .intro k k' x x' b a;cases a
  .intro k x b a;cases a
 refine(H.2 A w d j [] BM r m (λg q u=>⟨(n g q u).1,(n g q u).2.keep p⟩) E (λ_ _=>rfl) ⟨o.1,λi s v hs F=>(o.2 i s v hs F).keep p⟩ z y).mono ?_;rintro e w' ⟨v,μ',rfl,G,_,I,_,c⟩;exact⟨v,rfl,d0u G I B,⟨c.os,c.tape,c.output,c.drawn,c.size,λi J _=>c.block i J (λ⟨k,x,a,_⟩=>by cases a)⟩⟩
structure Cr where
 c:Int
 e:Int
 k:Int
 deriving DecidableEq
def d0:Cr:=⟨0,0,0⟩
def Vz(x:Cr):List SV:=[.int .i64 x.c,.int .u8 x.e,.int .u8 x.k]
def crOf:List SV->Cr
 | [.int _ a,.int _ b,.int _ c]=>⟨a,b,c⟩
 |_=>d0
def DS(l:List Cr)(i:Nat):List SV:=Vz (l.getD i d0)
def ED(n:Nat)(f:Nat->List SV):List Cr:=(List.range n).map λi=>crOf (f i)
def ML(n:Nat)(f:Nat->List SV):Prop:=∀i,i<n->f i=Vz (crOf (f i))
def Nr:SV->Option (Nat×(Nat->List SV))
 |.sl 3 n f _=>some (n,f)
 |.con (.slice none 0 0)=>some (0,λ_=>[])
 |_=>none
theorem EY(l:List Cr):ML l.length (DS l):=λ_ _=>rfl
theorem RE(n:Nat)(f:Nat->List SV):(ED n f).length=n:=by simp[ED]
theorem d10{n:Nat}{f:Nat->List SV}(h:ML n f):∀i,i<n->f i=DS (ED n f) i:=by intro i a;rw[h i a];simp[DS,ED,a]
theorem CL(l:List Cr):ED l.length (DS l)=l:=by
 apply L4;intro i;by_cases a:i<l.length
 .simp[ED,DS,a,Vz,crOf]
 .simp at a;simp[ED,a]
theorem IX{s:SV}{sz n:Nat}{f:Nat->List SV}{c:Option Nat}(h:s.le0 (.sl sz n f c)):s.le2 (.sl sz n f c):=by cases s<;>exact h
theorem Qz{s:SV}{n:Nat}{f:Nat->List SV}(h:Nr s=some (n,f))(a:ML n f):SV.le0 s (.sl 3 (ED n f).length (DS (ED n f)) none):=by
 unfold Nr at h;split at h
 .cases h;simp only[SV.le0,HW,RE,Jv,Mn];exact QC (d10 a)
 .cases h;simp[SV.le0,ED,HW]
 .cases h
theorem d18{sz n:Nat}{f:Nat->List SV}(c:Option Nat):SV.le0 (.sl sz n f c) (.sl sz n f none):=by simp only[SV.le0,HW,Jv,Mn];exact λi hi=>.inl rfl
theorem c6u(sz:Nat){f:Nat->List SV}:SV.le0 (.con (.slice none 0 0)) (.sl sz 0 f none):=by simp[SV.le0,HW]
theorem LC{b n:Nat}(h:Nat.ble b 128=true)(a:n*128<=140737488355328):n*b<=140737488355328:=
 Ke (Nat.mul_le_mul_left _ (Nat.le_of_ble_eq_true h)) a
def Uq:AK
 | [.sl 1 n f _]=>some (n<=100000,.sl 1 n f (some n))
 | [.con (.slice none 0 0)]=>some (True,.sl 1 0 (λ_=>[]) (some 0))
 |_=>none
def d7f:Fam:=⟨Nat×(Nat->List SV),λ(n,f)=>[.sl 1 n f none],λ(n,_)=>n<=100000,λ(n,f)=>.sl 1 n f (some n)⟩
theorem b95:PS 107 Uq:=by
 refine con [] Dm d7f (λ_ _=>none) Uq ?_ ?_ Tryz.func107 Dk Dk Dk ?_
 .intro args pre s h hp;unfold Uq at h;split at h
  .rename_i n f c;cases h;exact Bx
  .cases h;exact C0
  .cases h
 .exact Bu
 .rintro⟨n,f⟩ hp;replace hp:n<=100000:=hp;refine X0 _ ?_;(repeat' first|constructor|intro h)<;>refine Lm ?_
  all_goals(first
   |exact Aq
   |(show some ((n:Int)-0).toNat=some n;congr 1)
   |(intro i hi;congr 1;simp;done)
   |skip)
def XB:AK
 | [.sl 1 n f _]=>some (n<=100000,.sl 1 n f none)
 | [.con (.slice none 0 0)]=>some (True,.sl 1 0 (λ_=>[]) none)
 |_=>none
def c9k:Fam:=⟨Nat×(Nat->List SV),λ(n,f)=>[.sl 1 n f none],λ(n,_)=>n<=100000,λ(n,f)=>.sl 1 n f none⟩
theorem c00:PS 108 XB:=by
 refine con [] Dm c9k (λ_ _=>none) XB ?_ ?_ Tryz.func108 Dk Dk Dk ?_
 .intro args pre s h hp;unfold XB at h;split at h
  .rename_i n f c;cases h;exact Bx
  .cases h;exact C0
  .cases h
 .exact Bu
 .rintro⟨n,f⟩ hp;replace hp:n<=100000:=hp;refine X0 _ ?_;(repeat' first|constructor|intro h)<;>refine Lm ?_
  all_goals(first
   |omega
   |exact Be
   |(intro i hi;simp;done)
   |skip)
def b15:AK
 | [.sl 4 n f _]=>some (n<=100000,.sl 4 n f (some n))
 | [.con (.slice none 0 0)]=>some (True,.sl 4 0 (λ_=>[]) (some 0))
 |_=>none
def c7g:Fam:=⟨Nat×(Nat->List SV),λ(n,f)=>[.sl 4 n f none],λ(n,_)=>n<=100000,λ(n,f)=>.sl 4 n f (some n)⟩
theorem c89:PS 78 b15:=by
 refine con [] Dm c7g (λ_ _=>none) b15 ?_ ?_ Tryz.func78 Dk Dk Dk ?_
 .intro args pre s h hp;unfold b15 at h;split at h
  .rename_i n f c;cases h;exact Bx
  .cases h;exact C0
  .cases h
 .exact Bu
 .rintro⟨n,f⟩ hp;replace hp:n<=100000:=hp;refine X0 _ ?_;(repeat' first|constructor|intro h)<;>refine Lm ?_
  all_goals(first
   |exact Aq
   |(show some ((n:Int)-0).toNat=some n;congr 1)
   |(intro i hi;congr 1;simp;done)
   |skip)
def b0h:AK
 | [.sl 4 n f _]=>some (n<=100000,.sl 4 n f none)
 | [.con (.slice none 0 0)]=>some (True,.sl 4 0 (λ_=>[]) none)
 |_=>none
def c22:Fam:=⟨Nat×(Nat->List SV),λ(n,f)=>[.sl 4 n f none],λ(n,_)=>n<=100000,λ(n,f)=>.sl 4 n f none⟩
theorem c3q:PS 79 b0h:=by
 refine con [] Dm c22 (λ_ _=>none) b0h ?_ ?_ Tryz.func79 Dk Dk Dk ?_
 .intro args pre s h hp;unfold b0h at h;split at h
  .rename_i n f c;cases h;exact Bx
  .cases h;exact C0
  .cases h
 .exact Bu
 .rintro⟨n,f⟩ hp;replace hp:n<=100000:=hp;refine X0 _ ?_;(repeat' first|constructor|intro h)<;>refine Lm ?_
  all_goals(first
   |omega
   |exact Be
   |(intro i hi;simp;done)
   |skip)
def b0n:AK
 | [.sl 3 n f _]=>some (n<=100000,.sl 3 n f (some n))
 | [.con (.slice none 0 0)]=>some (True,.sl 3 0 (λ_=>[]) (some 0))
 |_=>none
def c2a:Fam:=⟨Nat×(Nat->List SV),λ(n,f)=>[.sl 3 n f none],λ(n,_)=>n<=100000,λ(n,f)=>.sl 3 n f (some n)⟩
theorem c1w:PS 88 b0n:=by
 refine con [] Dm c2a (λ_ _=>none) b0n ?_ ?_ Tryz.func88 Dk Dk Dk ?_
 .intro args pre s h hp;unfold b0n at h;split at h
  .rename_i n f c;cases h;exact Bx
  .cases h;exact C0
  .cases h
 .exact Bu
 .rintro⟨n,f⟩ hp;replace hp:n<=100000:=hp;refine X0 _ ?_;(repeat' first|constructor|intro h)<;>refine Lm ?_
  all_goals(first
   |exact Aq
   |(show some ((n:Int)-0).toNat=some n;congr 1)
   |(intro i hi;congr 1;simp;done)
   |skip)
def b07:AK
 | [.sl 3 n f _]=>some (n<=100000,.sl 3 n f none)
 | [.con (.slice none 0 0)]=>some (True,.sl 3 0 (λ_=>[]) none)
 |_=>none
def c1n:Fam:=⟨Nat×(Nat->List SV),λ(n,f)=>[.sl 3 n f none],λ(n,_)=>n<=100000,λ(n,f)=>.sl 3 n f none⟩
theorem c1r:PS 89 b07:=by
 refine con [] Dm c1n (λ_ _=>none) b07 ?_ ?_ Tryz.func89 Dk Dk Dk ?_
 .intro args pre s h hp;unfold b07 at h;split at h
  .rename_i n f c;cases h;exact Bx
  .cases h;exact C0
  .cases h
 .exact Bu
 .rintro⟨n,f⟩ hp;replace hp:n<=100000:=hp;refine X0 _ ?_;(repeat' first|constructor|intro h)<;>refine Lm ?_
  all_goals(first
   |omega
   |exact Be
   |(intro i hi;simp;done)
   |skip)
def b21:AK
 | [.sl 2 n f _]=>some (n<=100000,.sl 2 n f (some n))
 | [.con (.slice none 0 0)]=>some (True,.sl 2 0 (λ_=>[]) (some 0))
 |_=>none
def c8w:Fam:=⟨Nat×(Nat->List SV),λ(n,f)=>[.sl 2 n f none],λ(n,_)=>n<=100000,λ(n,f)=>.sl 2 n f (some n)⟩
theorem d2x:PS 168 b21:=by
 refine con [] Dm c8w (λ_ _=>none) b21 ?_ ?_ Tryz.func168 Dk Dk Dk ?_
 .intro args pre s h hp;unfold b21 at h;split at h
  .rename_i n f c;cases h;exact Bx
  .cases h;exact C0
  .cases h
 .exact Bu
 .rintro⟨n,f⟩ hp;replace hp:n<=100000:=hp;refine X0 _ ?_;(repeat' first|constructor|intro h)<;>refine Lm ?_
  all_goals(first
   |exact Aq
   |(show some ((n:Int)-0).toNat=some n;congr 1)
   |(intro i hi;congr 1;simp;done)
   |skip)
def b1z:AK
 | [.sl 3 n f _]=>some (n<=100000,.sl 3 n f (some n))
 | [.con (.slice none 0 0)]=>some (True,.sl 3 0 (λ_=>[]) (some 0))
 |_=>none
def d4h:Fam:=⟨Nat×(Nat->List SV),λ(n,f)=>[.sl 3 n f none],λ(n,_)=>n<=100000,λ(n,f)=>.sl 3 n f (some n)⟩
theorem d0w:PS 170 b1z:=by
 refine con [] Dm d4h (λ_ _=>none) b1z ?_ ?_ Tryz.func170 Dk Dk Dk ?_
 .intro args pre s h hp;unfold b1z at h;split at h
  .rename_i n f c;cases h;exact Bx
  .cases h;exact C0
  .cases h
 .exact Bu
 .rintro⟨n,f⟩ hp;replace hp:n<=100000:=hp;refine X0 _ ?_;(repeat' first|constructor|intro h)<;>refine Lm ?_
  all_goals(first
   |exact Aq
   |(show some ((n:Int)-0).toNat=some n;congr 1)
   |(intro i hi;congr 1;simp;done)
   |skip)
structure RT (α:Type)where
 sz:Nat
 sv:α->List SV
 of:List SV->α
 d:α
 ok:∀x,of (sv x)=x
def RT.row{α:Type}(R:RT α)(l:List α)(i:Nat):List SV:=R.sv (l.getD i R.d)
def RT.lst{α:Type}(R:RT α)(n:Nat)(f:Nat->List SV):List α:=(List.range n).map λi=>R.of (f i)
def RT.is{α:Type}(R:RT α)(n:Nat)(f:Nat->List SV):Prop:=∀i,i<n->f i=R.sv (R.of (f i))
theorem RT.is_row{α:Type}(R:RT α)(l:List α):R.is l.length (R.row l):=λi _=>by simp only[RT.row,R.ok]
theorem RT.lst_length{α:Type}(R:RT α)(n:Nat)(f:Nat->List SV):(R.lst n f).length=n:=by simp[RT.lst]
theorem RT.row_lst{α:Type}(R:RT α){n:Nat}{f:Nat->List SV}(h:R.is n f):∀i,i<n->f i=R.row (R.lst n f) i:=by intro i a;rw[h i a];simp[RT.row,RT.lst,a]
theorem RT.lst_row{α:Type}(R:RT α)(l:List α):R.lst l.length (R.row l)=l:=by
 apply L4;intro i;by_cases a:i<l.length
 .simp[RT.lst,RT.row,a,R.ok]
 .simp at a;simp[RT.lst,a]
def RT.as{α:Type}(R:RT α):SV->Option (Nat×(Nat->List SV))
 |.sl a n f _=>if a=R.sz then some (n,f)else none
 |.con (.slice none 0 0)=>some (0,λ_=>[])
 |_=>none
theorem RT.as_le{α:Type}(R:RT α){s:SV}{n:Nat}{f:Nat->List SV}(h:R.as s=some (n,f))(a:R.is n f):SV.le0 s (.sl R.sz (R.lst n f).length (R.row (R.lst n f)) none):=by
 unfold RT.as at h;split at h
 .split at h
  .rename_i b;cases h;simp only[SV.le0,HW,RT.lst_length,b,Mn];exact⟨Im,QC (R.row_lst a)⟩
  .cases h
 .cases h;simp[SV.le0,RT.lst,HW]
 .cases h
structure Mv where
 t:Int
 x:Int
 y:Int
 deriving DecidableEq
def AE:RT Mv:=⟨3,λm=>[.int .u8 m.t,.int .i64 m.x,.int .i64 m.y],λl=>match l with
 | [.int _ a,.int _ b,.int _ c]=>⟨a,b,c⟩
 |_=>⟨0,0,0⟩,⟨0,0,0⟩,λ_=>rfl⟩
def AC:RT Int:=⟨1,λn=>[.int .i64 n],λl=>match l with
 | [.int _ a]=>a
 |_=>0,0,λ_=>rfl⟩
def FX:RT Bool:=⟨1,λb=>[.bool b],λl=>match l with
 | [.bool b]=>b
 |_=>false,false,λ_=>rfl⟩
theorem b0x{α:Type}(R:RT α){l:List α}{n j:Nat}{m:α}(h:n<l.length)(e:j=n):R.row (l.set n m) j=R.sv m:=by subst e;simp[RT.row,h]
theorem b2y{α:Type}(R:RT α){l:List α}{n j:Nat}{m:α}(e:¬j=n):R.row (l.set n m) j=R.row l j:=by simp only[RT.row,If,Iw (Ne.symm e)]
theorem b06{α:Type}(R:RT α){l r:List α}{j:Nat}(h:j<l.length):R.row (l++r) j=R.row l j:=by simp only[RT.row,If,It h]
theorem YB{α:Type}(R:RT α){l:List α}{x:α}:R.row (l++[x]) l.length=R.sv x:=by simp[RT.row]
theorem d5v{α:Type}(R:RT α)(x:α)(r:List α)(j:Nat):R.row (x::r) (1+j)=R.row r j:=by rw[Nat.add_comm];rfl
theorem Qg{b:Nat}{n:Int}(h:Nat.ble b 128=true)(a:0<=n)(c:128*n<=281474976710656):(b:Int)*n<=281474976710656:=by have:b<=128:=Nat.le_of_ble_eq_true h;exact Int.le_trans (Int.mul_le_mul_of_nonneg_right Dj a) c
def upto{α:Type}(A B:Nat->α)(i j:Nat):α:=if j<i then A j else B j
theorem b5f{α:Type}(R:RT α)(c:∀a b,DH true (R.sv a) (R.sv b)=R.sv a)(d:∀a b,DH false (R.sv a) (R.sv b)=R.sv b)(A B:Nat->α)(i j:Nat):
 DH (decide (j=i)) (R.sv (A i)) (R.sv (upto A B i j))=R.sv (upto A B (i+1) j):=by
 by_cases e:j=i
 .subst e;rw[J7 rfl,c];simp[upto]
 .rw[J9 e,d];by_cases h:j<i
  .simp[upto,h,show j<i+1 from Dj]
  .simp[upto,h,show¬j<i+1 from Dj]
theorem b5n{α:Type}(A B:Nat->α)(j:Nat):upto A B 0 j=B j:=by simp[upto]
theorem Xv{α:Type}(A B:Nat->α){i j:Nat}(h:j<i):upto A B i j=A j:=by simp[upto,h]
theorem b9g{α:Type}(A B:Nat->α){i j:Nat}(h:i<=j):upto A B i j=B j:=by simp[upto,show¬j<i from Dj]
def KW(f:Nat->Int):Nat->Nat->Int
 |0,_=>0
 |n+1,i=>if f i=0 then KW f n (i+1)else f i
theorem b5c{f:Nat->Int}:∀{n i:Nat},KW f n i=0->∀j,i<=j->j<i+n->f j=0
 |0,i,_,j,b,c=>Dj
 |n+1,i,h,j,b,c=>by
  simp only[KW]at h;split at h
  .rename_i a;by_cases e:j=i
   .rw[e];exact a
   .exact b5c h j Dj Dj
  .rename_i a;exact absurd h a
structure Cl where
 x:Int
 y:Int
 q:Int
 deriving DecidableEq
def CO:RT Cl:=⟨3,λc=>[.int .i64 c.x,.int .i64 c.y,.int .u8 c.q],λl=>match l with
 | [.int _ a,.int _ b,.int _ c]=>⟨a,b,c⟩
 |_=>⟨0,0,0⟩,⟨0,0,0⟩,λ_=>rfl⟩
structure Stk where
 c:Cl
 l:List Int
 deriving DecidableEq
def SM:List SV->Stk
 | [.int _ a,.int _ b,.int _ c,s]=>⟨⟨a,b,c⟩,match AC.as s with|some (n,f)=>AC.lst n f|none=>[]⟩
 |_=>⟨⟨0,0,0⟩,[]⟩
def AA:RT Stk:=⟨4,λs=>[.int .i64 s.c.x,.int .i64 s.c.y,.int .u8 s.c.q,.sl 1 s.l.length (AC.row s.l) none],SM,⟨⟨0,0,0⟩,[]⟩,λs=>by have:AC.lst s.l.length (AC.row s.l)=s.l:=RT.lst_row _ _;show SM [.int .i64 s.c.x,.int .i64 s.c.y,.int .u8 s.c.q,.sl 1 s.l.length (AC.row s.l) none]=s;have h:AC.as (.sl 1 s.l.length (AC.row s.l) none)=some (s.l.length,AC.row s.l):=rfl;simp only[SM,h,this]⟩
def RT.isL{α:Type}(R:RT α)(n:Nat)(f:Nat->List SV):Prop:=∀i,i<n->HC (f i) (R.sv (R.of (f i)))
theorem RT.isL_row{α:Type}(R:RT α)(l:List α):R.isL l.length (R.row l):=λi _=>.inl (by simp only[RT.row,R.ok])
theorem RT.as_leL{α:Type}(R:RT α){s:SV}{n:Nat}{f:Nat->List SV}(h:R.as s=some (n,f))(a:R.isL n f):SV.le0 s (.sl R.sz (R.lst n f).length (R.row (R.lst n f)) none):=by
 unfold RT.as at h;split at h
 .split at h
  .rename_i b;cases h;simp only[SV.le0,HW,RT.lst_length,b,Mn];refine⟨Im,λi hi=> ?_⟩;have:=a i hi;have e:R.row (R.lst n f) i=R.sv (R.of (f i)):=Hg;rw[e];exact this
  .cases h
 .cases h;simp[SV.le0,RT.lst,HW]
 .cases h
def BQ(l:List Int)(v:Int):Int:=match l.findIdx? (λx=>decide (x=v))with
 |some i=>i
 |none=> -1
theorem c5i{l:List Int}{v:Int}{i:Nat}(hi:i<l.length)(h:∀j,j<i->l.getD j 0≠v)(a:l.getD i 0=v):BQ l v=i:=by
 have:l.findIdx? (λx=>decide (x=v))=some i:=by
  rw[K3];refine⟨hi,?_,λj b=> ?_⟩
  .simpa[If,hi]using a
  .have:=h j b;have c:j<l.length:=Dj;simpa[If,c]using this
 simp[BQ,this]
theorem d38{l:List Int}{v:Int}(h:∀j,j<l.length->l.getD j 0≠v):BQ l v= -1:=by
 have:l.findIdx? (λx=>decide (x=v))=none:=by rw[Kg];intro x hx;obtain⟨j,a,rfl⟩:=Jg.1 hx;have:=h j a;simpa[If,a]using this
 simp[BQ,this]
def b82:AK
 | [x,.int .i64 v]=>match AC.as x with
   |some (n,f)=>some (AC.isL n f/\n<=100000,.int .i64 (BQ (AC.lst n f) v))
   |none=>none
 |_=>none
def c9d:Fam:=⟨List Int×Int,λ(l,v)=>[.sl 1 l.length (AC.row l) none,.int .i64 v],λ(l,_)=>l.length<=100000,λ(l,v)=>.int .i64 (BQ l v)⟩
def f7c:List Int×Int->Nat->Option Inv
 |(l,v),2=>some {β:=Nat,ok:=λi=>i<=l.length/\∀j,j<i->l.getD j 0≠v,st:=λi=>⟨[⟨8,none,.int .i64 i⟩,⟨7,none,.int .i64 l.length⟩,⟨1,none,.int .i64 v⟩,⟨0,none,.sl 1 l.length (AC.row l) none⟩],[]⟩,μ:=λi=>l.length-i}
 |_,_=>none
theorem f7v:PS 173 b82:=by
 refine con [] Dm c9d f7c b82 ?_ ?_ Tryz.func173 Dk Dk Dk ?_
 .intro args pre s h a;unfold b82 at h;split at h
  .split at h
   .rename_i n f hx;cases h;exact⟨(AC.lst n f,_),⟨IX (AC.as_leL hx a.1),Dt,Im⟩,by simp only[c9d,RT.lst_length];exact a.2,rfl⟩
   .cases h
  .cases h
 .exact Bt
 .rintro⟨l,v⟩ a;replace a:l.length<=100000:=a;refine X0 _ ?_;(repeat' first|constructor|intro h)<;>refine Lm ?_
  refine⟨(0:Nat),⟨Ix _,λj g=>Dj⟩,?_,?_⟩
  .exact X0c
  .intro i k;obtain⟨dq,c⟩:=k;refine X0 _ ?_;(repeat' first|constructor|intro h)<;>refine Lm ?_
   all_goals(try simp only[Hv]at*)
   all_goals(first
    |exact Ap
    |(refine(c5i Dj c ?_).symm;exact(by assumption:v=l.getD i AC.d).symm)
    |(refine⟨i+1,⟨Dj,λj g=> ?_⟩,Dy,?_⟩)
    |(refine(d38 λj g=> ?_).symm;exact c j Dj)
    |skip)
   .by_cases e:j<i
    .exact c j e
    .have:j=i:=Dj;subst this;have q:¬v=l.getD j AC.d:=Dp;exact λe=>q e.symm
   .exact X0d
def b94:AK
 | [.agg [.int .i64 a,.int .i64 b,.int .u8 c,x]]=>match AC.as x with
   |some (n,f)=>some (AC.isL n f/\n<=100000,.agg [.int .i64 a,.int .i64 b,.int .u8 c,.sl 1 (AC.lst n f).length (AC.row (AC.lst n f)) (some (AC.lst n f).length)])
   |none=>none
 |_=>none
def d2p:Fam:=⟨Stk,λs=>[.agg [.int .i64 s.c.x,.int .i64 s.c.y,.int .u8 s.c.q,.sl 1 s.l.length (AC.row s.l) none]],λs=>s.l.length<=100000,λs=>.agg [.int .i64 s.c.x,.int .i64 s.c.y,.int .u8 s.c.q,.sl 1 s.l.length (AC.row s.l) (some s.l.length)]⟩
theorem f45:PS 74 b94:=by
 refine con [(108,XB),(107,Uq)] (by simpa using⟨c00,b95⟩) d2p (λ_ _=>none) b94 ?_ ?_ Tryz.func74 Dk Dk Dk ?_
 .intro args pre s h d;unfold b94 at h;split at h
  .split at h
   .rename_i a b c y q n f hx;cases h;exact⟨⟨⟨a,b,c⟩,AC.lst n f⟩,⟨⟨Dq,Dq,Dq,AC.as_leL hx d.1,Im⟩,Im⟩,by simp only[d2p,RT.lst_length];exact d.2,rfl⟩
   .cases h
  .cases h
 .exact Bu
 .rintro s d;replace d:s.l.length<=100000:=d;exact X0d
def KD(x:SV):Option (Prop×List Stk):=(AA.as x).map λq=>(AA.isL q.1 q.2/\q.1<=100000/\∀s∈AA.lst q.1 q.2,s.l.length<=100000,AA.lst q.1 q.2)
def FH(L:List Stk):Prop:=L.length<=100000/\∀s∈L,s.l.length<=100000
def Eo(L:List Stk):SV:=.sl 4 L.length (AA.row L) none
theorem Oe{x:SV}{q:Prop}{L:List Stk}(h:KD x=some (q,L))(hq:q):x.le2 (Eo L)/\FH L:=by unfold KD at h;simp only[Hx]at h;obtain⟨⟨n,f⟩,hx,rfl,rfl⟩:=h;exact⟨IX (AA.as_leL hx hq.1),Gr,hq.2.2⟩
theorem NV(L:List Stk)(h:FH L):AA.isL L.length (AA.row L)/\L.length<=100000/\∀s∈L,s.l.length<=100000:=⟨AA.isL_row L,h⟩
theorem Ko(L:List Stk):AA.lst L.length (AA.row L)=L:=RT.lst_row AA L
theorem QU{L:List Stk}(h:FH L)(i:Nat):(L.getD i AA.d).l.length<=100000:=by
 rw[If];cases hg:L[i]? with
 |none=>show 0<=_;omega
 |some s=>exact h.2 s (Ik hg)
def AX(L:List Stk)(c:Cl):List Int:=match L.find? (λs=>decide (s.c=c))with
 |some s=>s.l
 |none=>[]
theorem Xq{L:List Stk}{c:Cl}{i:Nat}(hi:i<L.length)(h:∀j,j<i->(L.getD j AA.d).c≠c)(hc:(L.getD i AA.d).c=c):AX L c=(L.getD i AA.d).l:=by
 have:L.find? (λs=>decide (s.c=c))=some (L.getD i AA.d):=by rw[List.find?_eq_some_iff_getElem];refine⟨Ed,i,hi,by simp[hi],λj a=> ?_⟩;have:=h j a;have b:j<L.length:=Dj;simpa[If,b]using this
 simp[AX,this]
theorem c0e{L:List Stk}{c:Cl}(h:∀j,j<L.length->(L.getD j AA.d).c≠c):AX L c=[]:=by
 have:L.find? (λs=>decide (s.c=c))=none:=by rw[List.find?_eq_none];intro s hs;obtain⟨j,a,rfl⟩:=Jg.1 hs;have:=h j a;simpa[If,a]using this
 simp[AX,this]
theorem clEq(a b:Cl):(decide (a.x=b.x)&&(decide (a.y=b.y)&&(decide (a.q=b.q)&&true)))=decide (a=b):=by cases a;cases b;simp[Bool.decide_and]
def d7e:AK
 | [x,.agg [.int .i64 a,.int .i64 b,.int .u8 c]]=>(KD x).map λq=>(q.1,.sl 1 (AX q.2 ⟨a,b,c⟩).length (AC.row (AX q.2 ⟨a,b,c⟩)) none)
 |_=>none
def FStAt:Fam:=⟨List Stk×Cl,λ(L,c)=>[Eo L,.agg [.int .i64 c.x,.int .i64 c.y,.int .u8 c.q]],λ(L,_)=>FH L,λ(L,c)=>.sl 1 (AX L c).length (AC.row (AX L c)) none⟩
def IStAt:List Stk×Cl->Nat->Option Inv
 |(L,c),2=>some {β:=Nat,ok:=λi=>i<=L.length/\∀j,j<i->(L.getD j AA.d).c≠c,st:=λi=>⟨[⟨9,none,.int .i64 i⟩,⟨8,none,.int .i64 L.length⟩,⟨7,none,Eo L⟩,⟨3,none,.own 0 0⟩],[.cells 47 [.int .i64 c.x,.int .i64 c.y,.int .u8 c.q]]⟩,μ:=λi=>L.length-i}
 |_,_=>none
theorem pStAt:PS 119 d7e:=by
 refine con [(108,XB),(107,Uq)] (by simpa using⟨c00,b95⟩) FStAt IStAt d7e ?_ ?_ Tryz.func119 Dk Dk Dk ?_
 .intro args pre s h d;unfold d7e at h;split at h
  .rename_i x a b c;simp only[Hx]at h;obtain⟨⟨q,L⟩,hx,rfl,rfl⟩:=h;obtain⟨l,m⟩:=Oe hx d;exact⟨(L,⟨a,b,c⟩),⟨l,Dz,Im⟩,m,rfl⟩
  .cases h
 .exact Bt
 .rintro⟨L,c⟩ d;replace d:FH L:=d;refine X0 _ ?_;(repeat' first|constructor|intro h)<;>refine Lm ?_
  refine⟨(0:Nat),⟨Ix _,λj k=>Dj⟩,?_,?_⟩
  .exact X0c
  .intro i n;obtain⟨dq,f⟩:=n;have hg:=QU d i;have hl:=d.1;refine X0 _ ?_;(repeat' first|constructor|intro h)<;>refine Lm ?_
   all_goals(try simp only[Hv,clEq]at*)
   all_goals(first
    |exact Ap
    |(rw[Xq Dj f Dp];done)
    |(intro j k;rw[Xq Dj f Dp];done)
    |(refine⟨i+1,⟨Dj,λj k=> ?_⟩,Dy,?_⟩)
    |(rw[c0e λj k=>f j Dj];rfl)
    |skip)
   .by_cases e:j<i
    .exact f j e
    .have:j=i:=Dj;subst this;assumption
   .exact X0d
def FE(k C:Int):Int:=if 1<=k/\k<=4/\ -4096<=C/\C<=4096 then 0 else 1
def Va:AK
 | [.agg [.int .u8 k,.int .i64 C]]=>some (True,.int .i64 (FE k C))
 |_=>none
def c3z:Fam:=⟨Int×Int,λ(k,C)=>[.agg [.int .u8 k,.int .i64 C]],λ(_,_)=>True,λ(k,C)=>.int .i64 (FE k C)⟩
theorem c57:PS 95 Va:=by
 refine con [] Dm c3z (λ_ _=>none) Va ?_ ?_ Tryz.func95 Dk Dk Dk ?_
 .intro args pre s h a;unfold Va at h;split at h
  .rename_i k C;cases h;exact⟨(k,C),by simp[c3z,BG,SV.le2,SV.le1,BJ,SV.le0],a,rfl⟩
  .cases h
 .exact Bu
 .rintro⟨k,C⟩ a;replace a:True:=a;refine X0 _ ?_;(repeat' first|constructor|intro h)<;>refine Lm ?_
  all_goals(simp[FE]at h⊢;omega)
def KC(x y:Int):Int:=if -65536<=x/\x<=65536/\ -65536<=y/\y<=65536 then 0 else 1
def b3k:AK
 | [.agg [.int .i64 x,.int .i64 y]]=>some (True,.int .i64 (KC x y))
 |_=>none
def c4q:Fam:=⟨Int×Int,λ(x,y)=>[.agg [.int .i64 x,.int .i64 y]],λ(_,_)=>True,λ(x,y)=>.int .i64 (KC x y)⟩
theorem d9e:PS 205 b3k:=by
 refine con [] Dm c4q (λ_ _=>none) b3k ?_ ?_ Tryz.func205 Dk Dk Dk ?_
 .intro args pre s h a;unfold b3k at h;split at h
  .rename_i x y;cases h;exact⟨(x,y),by simp[c4q,BG,SV.le2,SV.le1,BJ,SV.le0],a,rfl⟩
  .cases h
 .exact Bu
 .rintro⟨x,y⟩ a;replace a:True:=a;refine X0 _ ?_;(repeat' first|constructor|intro h)<;>refine Lm ?_
  all_goals(simp[KC]at h⊢;omega)
theorem c7t{k C:Int}(h:FE k C=0):1<=k/\k<=4/\ -4096<=C/\C<=4096:=by
 unfold FE at h;split at h
 .assumption
 .cases h
theorem c8b{x y:Int}(h:KC x y=0): -65536<=x/\x<=65536/\ -65536<=y/\y<=65536:=by
 unfold KC at h;split at h
 .assumption
 .cases h
def tA(t:Int):Int:=tb [1,0,-1,0,-1,0,1,0] t.toNat
def tB(t:Int):Int:=tb [0,-1,0,1,0,-1,0,1] t.toNat
def tC(t:Int):Int:=tb [0,1,0,-1,0,-1,0,1] t.toNat
def tD(t:Int):Int:=tb [1,0,-1,0,1,0,-1,0] t.toNat
def EQ(a:Int):Prop:= -1<=a/\a<=1
theorem c5t{t:Int}(a:0<=t)(h1:t<8):EQ (tA t)/\EQ (tB t)/\EQ (tC t)/\EQ (tD t):=by
 have:∀q:Nat,q<8->EQ (tA q)/\EQ (tB q)/\EQ (tC q)/\EQ (tD q):=by unfold EQ;decide
 have:=this t.toNat Dj;rwa[Lc a]at this
theorem RL{a x:Int}(h:EQ a):a*x=0\/a*x=x\/a*x= -x:=by have h1:=h.1;have h2:=h.2;have:a= -1\/a=0\/a=1:=Dj;rcases this with rfl|rfl|rfl<;>simp
def Te:AK
 | [.agg [.int .i64 a,.int .i64 b,.int .i64 c,.int .i64 d],.int .i64 x,.int .i64 y]=>some (EQ a/\EQ b/\EQ c/\EQ d/\ -1000000<=x/\x<=1000000/\ -1000000<=y/\y<=1000000,.tup [.int .i64 (a*x+b*y),.int .i64 (c*x+d*y)])
 |_=>none
def f26:Fam:=⟨Int×Int×Int×Int×Int×Int,λ(a,b,c,d,x,y)=>[.agg [.int .i64 a,.int .i64 b,.int .i64 c,.int .i64 d],.int .i64 x,.int .i64 y],λ(a,b,c,d,x,y)=>EQ a/\EQ b/\EQ c/\EQ d/\ -1000000<=x/\x<=1000000/\ -1000000<=y/\y<=1000000,λ(a,b,c,d,x,y)=>.tup [.int .i64 (a*x+b*y),.int .i64 (c*x+d*y)]⟩
theorem d1m:PS 53 Te:=by
 refine con [] Dm f26 (λ_ _=>none) Te ?_ ?_ Tryz.func53 Dk Dk Dk ?_
 .intro args pre s h e;unfold Te at h;split at h
  .rename_i a b c d x y;cases h;exact⟨(a,b,c,d,x,y),by simp[f26,BG,SV.le2,SV.le1,BJ,SV.le0],e,rfl⟩
  .cases h
 .exact Bv
 .rintro⟨a,b,c,d,x,y⟩ ⟨f,g,j,k,hx⟩;have e1:=RL (x:=x) f;have e2:=RL (x:=y) g;have e3:=RL (x:=x) j;have e4:=RL (x:=y) k;exact X0e
def b3h:AK
 | [.agg [.int .i64 a,.int .i64 b,.int .i64 c,.int .i64 d],.agg [.int .i64 p,.int .i64 q,.int .i64 r,.int .i64 s]]=>some ((EQ a/\EQ b/\EQ c/\EQ d)/\EQ p/\EQ q/\EQ r/\EQ s,.agg [.int .i64 (p*a+q*c),.int .i64 (p*b+q*d),.int .i64 (r*a+s*c),.int .i64 (r*b+s*d)])
 |_=>none
def c4i:Fam:=⟨Int×Int×Int×Int×Int×Int×Int×Int,λ(a,b,c,d,p,q,r,s)=>[.agg [.int .i64 a,.int .i64 b,.int .i64 c,.int .i64 d],.agg [.int .i64 p,.int .i64 q,.int .i64 r,.int .i64 s]],λ(a,b,c,d,p,q,r,s)=>(EQ a/\EQ b/\EQ c/\EQ d)/\EQ p/\EQ q/\EQ r/\EQ s,λ(a,b,c,d,p,q,r,s)=>.agg [.int .i64 (p*a+q*c),.int .i64 (p*b+q*d),.int .i64 (r*a+s*c),.int .i64 (r*b+s*d)]⟩
theorem d54:PS 127 b3h:=by
 refine con [(53,Te)] (by simpa using d1m) c4i (λ_ _=>none) b3h ?_ ?_ Tryz.func127 Dk Dk Dk ?_
 .intro args pre s h e;unfold b3h at h;split at h
  .rename_i a b c d p q r s;cases h;exact⟨(a,b,c,d,p,q,r,s),by simp[c4i,BG,SV.le2,SV.le1,BJ,SV.le0],e,rfl⟩
  .cases h
 .exact Bt
 .rintro⟨a,b,c,d,p,q,r,s⟩ ⟨⟨ha,hb,hc,hd⟩,f,g,j,k⟩;refine X0 _ ?_;(repeat' first|constructor|intro h)<;>refine Lm ?_
  all_goals(first|rfl|(simp only[EQ]at*;refine⟨f,g,j,k,?_⟩;omega))
def rowM(i:Nat)(a b c d:Int):Bool:=decide (tb [1,0,-1,0,-1,0,1,0] i=a)&&(decide (tb [0,-1,0,1,0,-1,0,1] i=b)&&(decide (tb [0,1,0,-1,0,-1,0,1] i=c)&&(decide (tb [1,0,-1,0,1,0,-1,0] i=d)&&true)))
def Qa(l:List Nat)(a b c d:Int):Int:=match l with
 | []=>0
 |i::l=>bif rowM i a b c d then i else Qa l a b c d
def numM(a b c d:Int):Int:=Qa [0,1,2,3,4,5,6,7] a b c d
def d6j:SV:=.agg (Om 0++Om 1++Om 2++Om 3++Om 4++Om 5++Om 6++Om 7)
def INum:Int×Int×Int×Int->Nat->Option Inv
 |(a,b,c,d),2=>some {β:=Nat,ok:=λi=>i<=8/\numM a b c d=Qa ([0,1,2,3,4,5,6,7].drop i) a b c d,st:=λi=>⟨[⟨6,none,.int .i64 i⟩,⟨5,none,d6j⟩,⟨2,none,.int .u8 0⟩,⟨1,none,.own 0 0⟩],[.cells 120 [.int .i64 a,.int .i64 b,.int .i64 c,.int .i64 d]]⟩,μ:=λi=>8-i}
 |_,_=>none
theorem QS(i:Nat)(l:List Nat)(a b c d:Int)(h:rowM i a b c d=false):Qa (i::l) a b c d=Qa l a b c d:=by rw[Qa,h,cond_false]
theorem f39(i:Nat)(l:List Nat)(a b c d:Int)(h:rowM i a b c d=true):Qa (i::l) a b c d=i:=by rw[Qa,h,M4]
def b8p:AK
 | [.agg [.int .i64 a,.int .i64 b,.int .i64 c,.int .i64 d]]=>some (True,.int .u8 (numM a b c d))
 |_=>none
def d1g:Fam:=⟨Int×Int×Int×Int,λ(a,b,c,d)=>[.agg [.int .i64 a,.int .i64 b,.int .i64 c,.int .i64 d]],λ(_,_,_,_)=>True,λ(a,b,c,d)=>.int .u8 (numM a b c d)⟩
theorem f4z:PS 55 b8p:=by
 refine con [] Dm d1g INum b8p ?_ ?_ Tryz.func55 Dk Dk Dk ?_
 .intro args pre s h f;unfold b8p at h;split at h
  .rename_i a b c d;cases h;exact⟨(a,b,c,d),by simp[d1g,BG,SV.le2,SV.le1,BJ,SV.le0],f,rfl⟩
  .cases h
 .exact Bu
 .rintro⟨a,b,c,d⟩ f;replace f:True:=f;refine X0 _ ?_;(repeat' first|constructor|intro h)<;>refine Lm ?_
  refine⟨(0:Nat),⟨Dj,rfl⟩,?_,?_⟩
  .exact X0c
  .intro i j;obtain⟨dq,e⟩:=j;have:i=0\/i=1\/i=2\/i=3\/i=4\/i=5\/i=6\/i=7\/i=8:=Dj;rcases this with rfl|rfl|rfl|rfl|rfl|rfl|rfl|rfl|rfl;all_goals replace e:=e
   all_goals refine X0 _ ?_;(repeat' first|constructor|intro h)<;>refine Lm ?_
   all_goals(first
    |decide
    |exact A4
    |exact e.symm
    |exact(e.trans (f39 _ _ _ _ _ _ h)).symm
    |(first|refine⟨(1:Nat),⟨Dn,e.trans (QS 0 _ _ _ _ _ h)⟩,Dn,?_⟩|refine⟨(2:Nat),⟨Dn,e.trans (QS 1 _ _ _ _ _ h)⟩,Dn,?_⟩|refine⟨(3:Nat),⟨Dn,e.trans (QS 2 _ _ _ _ _ h)⟩,Dn,?_⟩|refine⟨(4:Nat),⟨Dn,e.trans (QS 3 _ _ _ _ _ h)⟩,Dn,?_⟩|refine⟨(5:Nat),⟨Dn,e.trans (QS 4 _ _ _ _ _ h)⟩,Dn,?_⟩|refine⟨(6:Nat),⟨Dn,e.trans (QS 5 _ _ _ _ _ h)⟩,Dn,?_⟩|refine⟨(7:Nat),⟨Dn,e.trans (QS 6 _ _ _ _ _ h)⟩,Dn,?_⟩|refine⟨(8:Nat),⟨Dn,e.trans (QS 7 _ _ _ _ _ h)⟩,Dn,?_⟩))
   all_goals exact X0f
def cT(t u:Int):Int:=numM (tA u*tA t+tB u*tC t) (tA u*tB t+tB u*tD t) (tC u*tA t+tD u*tC t) (tC u*tB t+tD u*tD t)
theorem cT_le{t u:Int}(a:0<=t)(h1:t<8)(k0:0<=u)(k1:u<8):0<=cT t u/\cT t u<8:=by
 have:∀q:Nat,q<8->∀r:Nat,r<8->0<=cT q r/\cT q r<8:=by decide +kernel
 have:=this t.toNat Dj u.toNat Dj;rwa[Lc a,Lc k0]at this
def Xn:AK
 | [.int .i64 n]=>some (True,.bool (or (decide (n< -16384)) (decide (16384<n))))
 |_=>none
def d0q:Fam:=⟨Int,λn=>[.int .i64 n],λ_=>True,λn=>.bool (or (decide (n< -16384)) (decide (16384<n)))⟩
theorem f4v:PS 48 Xn:=by
 refine con [] Dm d0q (λ_ _=>none) Xn ?_ ?_ Tryz.func48 Dk Dk Dk ?_
 .intro args pre s h a;unfold Xn at h;split at h
  .rename_i n;cases h;exact⟨n,by simp[d0q,BG,SV.le2,SV.le1,SV.le0],a,rfl⟩
  .cases h
 .exact Bu
 .intro(n:Int) a;replace a:True:=a;refine X0 _ ?_;(repeat' first|constructor|intro h)<;>refine Lm ?_
  all_goals rfl
def DA(t x y:Int):Int:=if t<8/\ -16384<=x/\x<=16384/\ -16384<=y/\y<=16384/\(x+y)%2=0 then 0 else 1
theorem Rr{t x y:Int}(h:DA t x y=0):t<8/\ -16384<=x/\x<=16384/\ -16384<=y/\y<=16384/\(x+y)%2=0:=by
 unfold DA at h;split at h
 .assumption
 .cases h
theorem tmod2(n:Int):n.tmod 2=0↔n%2=0:=by rw[<-Int.dvd_iff_emod_eq_zero,Int.dvd_iff_tmod_eq_zero]
def PB:AK
 | [.agg [.int .u8 t,.int .i64 x,.int .i64 y]]=>some (0<=t/\t<=255,.int .i64 (DA t x y))
 |_=>none
def c4f:Fam:=⟨Int×Int×Int,λ(t,x,y)=>[.agg [.int .u8 t,.int .i64 x,.int .i64 y]],λ(t,_,_)=>0<=t/\t<=255,λ(t,x,y)=>.int .i64 (DA t x y)⟩
theorem Se:PS 19 PB:=by
 refine con [(48,Xn)] (by simpa using f4v) c4f (λ_ _=>none) PB ?_ ?_ Tryz.func19 Dk Dk Dk ?_
 .intro args pre s h a;unfold PB at h;split at h
  .rename_i t x y;cases h;exact⟨(t,x,y),by simp[c4f,BG,SV.le2,SV.le1,BJ,SV.le0],a,rfl⟩
  .cases h
 .exact Bu
 .rintro⟨t,x,y⟩ a;replace a:0<=t/\t<=255:=a;refine X0 _ ?_;(repeat' first|constructor|intro h)<;>refine Lm ?_
  all_goals(try(simp only[I7,Hw,I0]at*))
  all_goals(first
   |decide
   |exact A4
   |(unfold DA;rw[if_neg Dj])
   |(intro _;decide)
   |(intros;simp only[AD];omega)
   |(intros;unfold DA;rw[if_neg Dj])
   |(have e:=tmod2 (x+y);unfold DA;rw[if_pos Dj])
   |(have e:=tmod2 (x+y);unfold DA;rw[if_neg Dj]))
def KZ(t x y:Int):Int:=if DA t x y=0 then 0 else 3
def keep(e v:Int):Int:=if e=0 then v else 0
def b3n:AK
 | [.agg [.int .u8 t,.int .i64 x,.int .i64 y]]=>some (0<=t/\t<=255,.tup [.agg [.int .u8 (keep (KZ t x y) t),.int .i64 (keep (KZ t x y) x),.int .i64 (keep (KZ t x y) y)],.int .i64 (KZ t x y)])
 |_=>none
def c61:Fam:=⟨Int×Int×Int,λ(t,x,y)=>[.agg [.int .u8 t,.int .i64 x,.int .i64 y]],λ(t,_,_)=>0<=t/\t<=255,λ(t,x,y)=>.tup [.agg [.int .u8 (keep (KZ t x y) t),.int .i64 (keep (KZ t x y) x),.int .i64 (keep (KZ t x y) y)],.int .i64 (KZ t x y)]⟩
theorem d7u:PS 54 b3n:=by
 refine con [(19,PB)] (by simpa using Se) c61 (λ_ _=>none) b3n ?_ ?_ Tryz.func54 Dk Dk Dk ?_
 .intro args pre s h a;unfold b3n at h;split at h
  .rename_i t x y;cases h;exact⟨(t,x,y),by simp[c61,BG,SV.le2,SV.le1,BJ,SV.le0],a,rfl⟩
  .cases h
 .exact Bu
 .rintro⟨t,x,y⟩ a;replace a:0<=t/\t<=255:=a;refine X0 _ ?_;(repeat' first|constructor|intro h)<;>refine Lm ?_
  all_goals(try exact a)
  all_goals(simp only[Hw,I0]at h)
  all_goals(simp[keep,KZ,h])
def c47:AK
 | [.agg [.int .u8 t,.int .i64 x,.int .i64 y]]=>some (0<=t/\t<=255,.bool (and (decide (DA t x y=0)) (decide (4<=t))))
 |_=>none
def f00:Fam:=⟨Int×Int×Int,λ(t,x,y)=>[.agg [.int .u8 t,.int .i64 x,.int .i64 y]],λ(t,_,_)=>0<=t/\t<=255,λ(t,x,y)=>.bool (and (decide (DA t x y=0)) (decide (4<=t)))⟩
theorem pFlips:PS 46 c47:=by
 refine con [(19,PB)] (by simpa using Se) f00 (λ_ _=>none) c47 ?_ ?_ Tryz.func46 Dk Dk Dk ?_
 .intro args pre s h a;unfold c47 at h;split at h
  .rename_i t x y;cases h;exact⟨(t,x,y),by simp[f00,BG,SV.le2,SV.le1,BJ,SV.le0],a,rfl⟩
  .cases h
 .exact Bu
 .rintro⟨t,x,y⟩ a;replace a:0<=t/\t<=255:=a;refine X0 _ ?_;(repeat' first|constructor|intro h)<;>refine Lm ?_
  all_goals(first|exact a|rfl|skip)
def b2f:AK
 | []=>some (True,.agg [.int .u8 0,.int .i64 0,.int .i64 0])
 |_=>none
def c90:Fam:=⟨Unit,λ_=>[],λ_=>True,λ_=>.agg [.int .u8 0,.int .i64 0,.int .i64 0]⟩
theorem d4n:PS 34 b2f:=by
 refine con [] Dm c90 (λ_ _=>none) b2f ?_ ?_ Tryz.func34 Dk Dk Dk ?_
 .intro args pre s h a;unfold b2f at h;split at h
  .cases h;exact⟨(),Im,Im,rfl⟩
  .cases h
 .intro i;show 0<=_;decide
 .intro i a;refine X0 _ ?_;(repeat' first|constructor|intro h)<;>refine Lm ?_
theorem d5w(k C:Int):FE k C=0\/FE k C=1:=by unfold FE;split<;>simp
def NM(k:Int):Int:=if k=1 then 4 else if k=2 then 6 else if k=3 then 5 else 7
def Ph(k C:Int):Int:=if k=1 then 2*C else if k=2 then 0 else if k=3 then C else -C
def QJ(k C:Int):Int:=if k=1 then 0 else if k=2 then 2*C else C
def XR:AK
 | [.agg [.int .u8 k,.int .i64 C]]=>some (True,.tup [.agg [.int .u8 (keep (FE k C) (NM k)),.int .i64 (keep (FE k C) (Ph k C)),.int .i64 (keep (FE k C) (QJ k C))],.int .i64 (FE k C)])
 |_=>none
def FMvOf:Fam:=⟨Int×Int,λ(k,C)=>[.agg [.int .u8 k,.int .i64 C]],λ(_,_)=>True,λ(k,C)=>.tup [.agg [.int .u8 (keep (FE k C) (NM k)),.int .i64 (keep (FE k C) (Ph k C)),.int .i64 (keep (FE k C) (QJ k C))],.int .i64 (FE k C)]⟩
theorem pMvOf:PS 61 XR:=by
 refine con [(95,Va)] (by simpa using c57) FMvOf (λ_ _=>none) XR ?_ ?_ Tryz.func61 Dk Dk Dk ?_
 .intro args pre s h a;unfold XR at h;split at h
  .rename_i k C;cases h;exact⟨(k,C),by simp[FMvOf,BG,SV.le2,SV.le1,BJ,SV.le0],a,rfl⟩
  .cases h
 .exact Bu
 .rintro⟨k,C⟩ a;replace a:True:=a;refine X0 _ ?_;(repeat' first|constructor|intro h)<;>refine Lm ?_
  all_goals(have e:=d5w k C;have e':=@c7t k C)
  all_goals(try simp only[AD])
  all_goals grind[keep,NM,Ph,QJ]
def IU(t x y:Int):Int:=tA t*x+tB t*y
def IW(t x y:Int):Int:=tC t*x+tD t*y
def GK(t x y u z w:Int):Int:=if DA t x y=0/\DA u z w=0 then KZ (cT t u) (IU u x y+z) (IW u x y+w)else 1
def PN(t x y u z w:Int):Int:=keep (GK t x y u z w) (cT t u)
def VG(t x y u z w:Int):Int:=keep (GK t x y u z w) (IU u x y+z)
def Td(t x y u z w:Int):Int:=keep (GK t x y u z w) (IW u x y+w)
theorem c37{t x y B:Int}(a:0<=t)(b:t<8)(a1: -B<=x)(a2:x<=B)(b1: -B<=y)(b2:y<=B): -(2*B)<=IU t x y/\IU t x y<=2*B/\ -(2*B)<=IW t x y/\IW t x y<=2*B:=by obtain⟨c,d,e,f⟩:=c5t a b;have e1:=RL (x:=x) c;have e2:=RL (x:=y) d;have e3:=RL (x:=x) e;have e4:=RL (x:=y) f;unfold IU IW;omega
def Tk:AK
 | [.agg [.int .u8 t,.int .i64 x,.int .i64 y],.agg [.int .u8 u,.int .i64 z,.int .i64 w]]=>some ((0<=t/\t<=255)/\0<=u/\u<=255,.tup [.agg [.int .u8 (PN t x y u z w),.int .i64 (VG t x y u z w),.int .i64 (Td t x y u z w)],.int .i64 (GK t x y u z w)])
 |_=>none
def FThen:Fam:=⟨Int×Int×Int×Int×Int×Int,λ(t,x,y,u,z,w)=>[.agg [.int .u8 t,.int .i64 x,.int .i64 y],.agg [.int .u8 u,.int .i64 z,.int .i64 w]],λ(t,_,_,u,_,_)=>(0<=t/\t<=255)/\0<=u/\u<=255,λ(t,x,y,u,z,w)=>.tup [.agg [.int .u8 (PN t x y u z w),.int .i64 (VG t x y u z w),.int .i64 (Td t x y u z w)],.int .i64 (GK t x y u z w)]⟩
theorem f54 : PS 90 Tk := by
  refine con [(19, PB), (53, Te), (127, b3h), (55, b8p), (54, b3n)] (by simpa using ⟨Se, d1m, d54, f4z, d7u⟩) FThen (λ_ _ => none) Tk ?_ ?_ Tryz.func90 Dk Dk Dk ?_
  · intro args pre s h a
    unfold Tk at h
    split at h
    · rename_i t x y u z w; cases h; exact ⟨(t, x, y, u, z, w), by simp [FThen, BG, SV.le2, SV.le1, BJ, SV.le0], a, rfl⟩
    · cases h
  · exact Bt
  · rintro ⟨t, x, y, u, z, w⟩ a
    replace a : (0 ≤ t ∧ t ≤ 255) ∧ 0 ≤ u ∧ u ≤ 255 := a
    refine AB _ ?_; (repeat' first | constructor | refine Iu λhu => ?_ | intro h)<;>refine Lm ?_
    all_goals (first
      | exact a.1
      | exact λ_ => a.2
      | (have e : GK t x y u z w = 1 := by grind [GK]
         simp [PN, VG, Td, keep, e]; done)
      | (rw [Kv] at h
         have f : DA t x y = 0 := by simpa using h.1
         have g : DA u z w = 0 := by simpa using h.2
         have j := Rr f
         have d := Rr g
         have r := c37 (t := u) (x := x) (y := y) (B := 16384) a.2.1 d.1 Dj Dj Dj Dj
         have c := cT_le a.1.1 j.1 a.2.1 d.1
         have k := c5t a.1.1 j.1
         have b := c5t a.2.1 d.1
         first
         | (constructor <;> omega)
         | exact ⟨b.1, b.2.1, b.2.2.1, b.2.2.2, Dj, Dj, Dj, Dj⟩
         | exact ⟨k, b⟩
         | (change AD .i64 (IU u x y + z); simp only [AD]; omega)
         | (change AD .i64 (IW u x y + w); simp only [AD]; omega)
         | (refine ⟨c.1, ?_⟩; change cT t u ≤ 255; omega)
         | (have e : GK t x y u z w = KZ (cT t u) (IU u x y + z) (IW u x y + w) := by unfold GK; rw [if_pos ⟨f, g⟩]
            first | exact e.symm | (unfold PN; rw [e]; rfl) | (unfold VG; rw [e]; rfl) | (unfold Td; rw [e]; rfl)))
      | skip)
def Ob(t x y a b:Int):Int:=if DA t x y=0/\KC a b=0 then(if KC (IU t a b+2*x) (IW t a b+2*y)=0 then 0 else 3)else 1
def MR(t x y a b:Int):Int:=keep (Ob t x y a b) (IU t a b+2*x)
def MN(t x y a b:Int):Int:=keep (Ob t x y a b) (IW t a b+2*y)
def b3y:AK
 | [.agg [.int .u8 t,.int .i64 x,.int .i64 y],.agg [.int .i64 a,.int .i64 b]]=>some (0<=t/\t<=255,.tup [.agg [.int .i64 (MR t x y a b),.int .i64 (MN t x y a b)],.int .i64 (Ob t x y a b)])
 |_=>none
def c5y:Fam:=⟨Int×Int×Int×Int×Int,λ(t,x,y,a,b)=>[.agg [.int .u8 t,.int .i64 x,.int .i64 y],.agg [.int .i64 a,.int .i64 b]],λ(t,_,_,_,_)=>0<=t/\t<=255,λ(t,x,y,a,b)=>.tup [.agg [.int .i64 (MR t x y a b),.int .i64 (MN t x y a b)],.int .i64 (Ob t x y a b)]⟩
theorem d73 : PS 185 b3y := by
  refine con [(19, PB), (53, Te), (205, b3k)] (by simpa using ⟨Se, d1m, d9e⟩) c5y (λ_ _ => none) b3y ?_ ?_ Tryz.func185 Dk Dk Dk ?_
  · intro args pre s h c
    unfold b3y at h
    split at h
    · rename_i t x y a b; cases h; exact ⟨(t, x, y, a, b), by simp [c5y, BG, SV.le2, SV.le1, BJ, SV.le0], c, rfl⟩
    · cases h
  · exact Bt
  · rintro ⟨t, x, y, a, b⟩ c
    replace c : 0 ≤ t ∧ t ≤ 255 := c
    refine AB _ ?_; (repeat' first | constructor | refine Iu λhu => ?_ | intro h)<;>refine Lm ?_
    all_goals (first
      | exact c
      | (have e : Ob t x y a b = 1 := by grind [Ob]
         simp [MR, MN, keep, e]; done)
      | (have f : (!decide (DA t x y = 0) || !decide (KC a b = 0)) = false := by assumption
         rw [Kv] at f
         have g : DA t x y = 0 := by simpa using f.1
         have j : KC a b = 0 := by simpa using f.2
         have k := Rr g
         have m2 := c8b j
         have r := c37 (t := t) (x := a) (y := b) (B := 65536) c.1 k.1 Dj Dj Dj Dj
         have d := c5t c.1 k.1
         first
         | (constructor <;> omega)
         | exact ⟨d.1, d.2.1, d.2.2.1, d.2.2.2, Dj, Dj, Dj, Dj⟩
         | (change AD .i64 (IU t a b + 2 * x); simp only [AD]; omega)
         | (change AD .i64 (IW t a b + 2 * y); simp only [AD]; omega)
         | exact A4
         | (have e : Ob t x y a b = (if KC (IU t a b + 2 * x) (IW t a b + 2 * y) = 0 then 0 else 3) := by unfold Ob; rw [if_pos ⟨g, j⟩]
            first
            | (have q : KC (IU t a b + 2 * x) (IW t a b + 2 * y) = 0 := by (change (!decide (KC (IU t a b + 2 * x) (IW t a b + 2 * y) = 0)) = false at h; simpa using h)
               rw [Ih q] at e
               simp only [MR, MN, keep, e, Jv]; try rfl)
            | (have q : ¬ KC (IU t a b + 2 * x) (IW t a b + 2 * y) = 0 := by (change (!decide (KC (IU t a b + 2 * x) (IW t a b + 2 * y) = 0)) = true at h; simpa using h)
               rw [Ii q] at e
               simp [MR, MN, keep, e]; done)))
      | skip)
def AM(W H:Int):Int:=if 1<=W/\1<=H/\W<=256/\H<=256/\W*H<=256 then 0 else 1
theorem c1k{W H:Int}(c:1<=W)(d:1<=H)(e:W<=256)(f:H<=256):1<=W*H/\W*H<=65536:=by have a:1*1<=W*H:=Int.mul_le_mul c d Dj Dj;have b:W*H<=256*256:=Int.mul_le_mul e f Dj Dj;omega
def OZ:AK
 | [.agg [.int .i64 W,.int .i64 H]]=>some (True,.int .i64 (AM W H))
 |_=>none
def b38:Fam:=⟨Int×Int,λ(W,H)=>[.agg [.int .i64 W,.int .i64 H]],λ_=>True,λ(W,H)=>.int .i64 (AM W H)⟩
theorem Ql:PS 11 OZ:=by
 refine con [] Dm b38 (λ_ _=>none) OZ ?_ ?_ Tryz.func11 Dk Dk Dk ?_
 .intro args pre s h hp;unfold OZ at h;split at h
  .rename_i W H;cases h;exact⟨(W,H),by simp[b38,BG,SV.le2,SV.le1,BJ,SV.le0],Im,rfl⟩
  .cases h
 .exact Bu
 .rintro⟨W,H⟩-;refine X0 _ ?_;(repeat' first|constructor|intro h)<;>refine Lm ?_
  .intro h;simp at h;have:=c1k (W:=W) (H:=H) Dj Dj Dj Dj;simp only[AD];omega
  .simp[AM]at h⊢;omega
  .simp[AM]at h⊢;omega
def RC(W H i:Int):Bool:=decide (0<=i)&&decide (i<4*W*H)
def kHas:AK
 | [.agg [.int .i64 W,.int .i64 H],.int .i64 i]=>some (AM W H=0,.bool (RC W H i))
 |_=>none
def FHas:Fam:=⟨Int×Int×Int,λ(W,H,i)=>[.agg [.int .i64 W,.int .i64 H],.int .i64 i],λ(W,H,_)=>AM W H=0,λ(W,H,i)=>.bool (RC W H i)⟩
theorem Ow{W H:Int}(h:AM W H=0):1<=W/\1<=H/\W<=256/\H<=256/\1<=W*H/\W*H<=256/\4*W*H=4*(W*H):=by
 unfold AM at h;split at h
 .rename_i e;obtain⟨a,b,c,d,f⟩:=e;have:=c1k a b c d;exact⟨a,b,c,d,this.1,f,Kz _ _ _⟩
 .cases h
theorem pHas:PS 146 kHas:=by
 refine con [] Dm FHas (λ_ _=>none) kHas ?_ ?_ Tryz.func146 Dk Dk Dk ?_
 .intro args pre s h a;unfold kHas at h;split at h
  .rename_i W H i;cases h;exact⟨(W,H,i),by simp[FHas,BG,SV.le2,SV.le1,BJ,SV.le0],a,rfl⟩
  .cases h
 .exact Bt
 .rintro⟨W,H,i⟩ a;obtain⟨h1,h2,h3,h4,h5,h6,h7⟩:=Ow a;refine X0 _ ?_;(repeat' first|constructor|intro h)<;>refine Lm ?_
  .intro _;simp only[AD];omega
  .intro _;simp only[AD];omega
  all_goals rfl
def Wf:AK
 | [.agg [.int .i64 W,.int .i64 _],.int .i64 i]=>some (1<=W/\W<=256/\0<=i/\i<=1024,.agg [.int .i64 (i/4%W),.int .i64 (i/4/W),.int .u8 (i%4)])
 |_=>none
def FCell:Fam:=⟨Int×Int×Int,λ(W,H,i)=>[.agg [.int .i64 W,.int .i64 H],.int .i64 i],λ(W,_,i)=>1<=W/\W<=256/\0<=i/\i<=1024,λ(W,_,i)=>.agg [.int .i64 (i/4%W),.int .i64 (i/4/W),.int .u8 (i%4)]⟩
theorem pCell:PS 147 Wf:=by
 refine con [] Dm FCell (λ_ _=>none) Wf ?_ ?_ Tryz.func147 Dk Dk Dk ?_
 .intro args pre s h b;unfold Wf at h;split at h
  .rename_i W H i;cases h;exact⟨(W,H,i),by simp[FCell,BG,SV.le2,SV.le1,BJ,SV.le0],b,rfl⟩
  .cases h
 .exact Bt
 .rintro⟨W,H,i⟩ ⟨h1,h2,a,h4⟩;have c:i.tdiv 4=i/4:=Ks a;have d:i.tmod 4=i%4:=K7 a;have e:(i/4).tdiv W=i/4/W:=Ks Dj;have f:(i/4).tmod W=i/4%W:=K7 Dj;have a5:i/4/W<=i/4:=Int.ediv_le_self _ Dj;have a6:0<=i/4/W:=Int.ediv_nonneg Dj Dj;refine X0 _ ?_;(repeat' first|constructor|intro h)<;>refine Lm ?_
  all_goals(try simp only[c,d,e,f])
  all_goals(try simp only[AD])
  all_goals omega
def EH(X Y Q:Int):Int:=if -4096<=X/\X<=4096/\ -4096<=Y/\Y<=4096/\Q<=3 then 0 else 1
def PV:AK
 | [.agg [.int .i64 X,.int .i64 Y,.int .u8 Q]]=>some (True,.int .i64 (EH X Y Q))
 |_=>none
def b49:Fam:=⟨Int×Int×Int,λ(X,Y,Q)=>[.agg [.int .i64 X,.int .i64 Y,.int .u8 Q]],λ_=>True,λ(X,Y,Q)=>.int .i64 (EH X Y Q)⟩
theorem TO:PS 130 PV:=by
 refine con [] Dm b49 (λ_ _=>none) PV ?_ ?_ Tryz.func130 Dk Dk Dk ?_
 .intro args pre s h hp;unfold PV at h;split at h
  .rename_i X Y Q;cases h;exact⟨(X,Y,Q),by simp[b49,BG,SV.le2,SV.le1,BJ,SV.le0],Im,rfl⟩
  .cases h
 .exact Bu
 .rintro⟨X,Y,Q⟩-;refine X0 _ ?_;(repeat' first|constructor|intro h)<;>refine Lm ?_
  .simp[EH]at h⊢;omega
  .simp[EH]at h⊢;omega
theorem Rk{X Y Q:Int}(h:EH X Y Q=0): -4096<=X/\X<=4096/\ -4096<=Y/\Y<=4096/\Q<=3:=by
 unfold EH at h;split at h
 .assumption
 .cases h
def JP(W H i:Int):Int:=if AM W H=0 then if RC W H i=true then 0 else 7 else 1
def BO(W H i:Int):Int:=if JP W H i=0 then i/4%W else 0
def BP(W H i:Int):Int:=if JP W H i=0 then i/4/W else 0
def BT(W H i:Int):Int:=if JP W H i=0 then i%4 else 0
theorem b3q(W H:Int):AM W H=0\/AM W H=1:=by unfold AM;split<;>simp
def UG:AK
 | [.agg [.int .i64 W,.int .i64 H],.int .i64 i]=>some (True,.tup [.agg [.int .i64 (BO W H i),.int .i64 (BP W H i),.int .u8 (BT W H i)],.int .i64 (JP W H i)])
 |_=>none
def b4u:Fam:=⟨Int×Int×Int,λ(W,H,i)=>[.agg [.int .i64 W,.int .i64 H],.int .i64 i],λ_=>True,λ(W,H,i)=>.tup [.agg [.int .i64 (BO W H i),.int .i64 (BP W H i),.int .u8 (BT W H i)],.int .i64 (JP W H i)]⟩
theorem b1u:PS 104 UG:=by
 refine con [(11,OZ),(146,kHas),(147,Wf)] (by simpa using⟨Ql,pHas,pCell⟩) b4u (λ_ _=>none) UG ?_ ?_ Tryz.func104 Dk Dk Dk ?_
 .intro args pre s h hp;unfold UG at h;split at h
  .rename_i W H i;cases h;exact⟨(W,H,i),by simp[b4u,BG,SV.le2,SV.le1,BJ,SV.le0],Im,rfl⟩
  .cases h
 .exact Bt
 .rintro⟨W,H,i⟩-;refine X0 _ ?_;(repeat' first|constructor|intro h)<;>refine Lm ?_
  all_goals(try simp only[BO,BP,BT,JP])
  all_goals(try simp at h)
  all_goals(first|(simp[h];done)|skip)
  all_goals(try(rename_i a;simp at a;simp[h,a];done))
  .rw[Ii h];exact(b3q W H).resolve_left h
  .rename_i a;simp at a;obtain⟨h1,h2,h3,h4,h5,h6,h7⟩:=Ow a;simp[RC]at h;omega
def DR(Q e:Int):Int:=[tb [0,1,0,-1] Q.toNat,tb [0,0,0,0] Q.toNat,tb [0,0,0,0] Q.toNat].getD e.toNat 0
def DU(Q e:Int):Int:=[tb [-1,0,1,0] Q.toNat,tb [0,0,0,0] Q.toNat,tb [0,0,0,0] Q.toNat].getD e.toNat 0
def DW(Q e:Int):Int:=[tb [2,3,0,1] Q.toNat,tb [1,0,3,2] Q.toNat,tb [3,2,1,0] Q.toNat].getD e.toNat 0
def FO(X Y Q e:Int):Int:=if EH X Y Q=0/\e<=2 then(if EH (DR Q e+X) (DU Q e+Y) (DW Q e)=0 then 0 else 3)else 1
def ID(X Y Q e:Int):Int:=if FO X Y Q e=0 then DR Q e+X else 0
def IF(X Y Q e:Int):Int:=if FO X Y Q e=0 then DU Q e+Y else 0
def HH(X Y Q e:Int):Int:=if FO X Y Q e=0 then DW Q e else 0
theorem f2e{Q e:Int}(a:0<=Q)(h2:Q<=3)(b:0<=e)(h4:e<=2): -1<=DR Q e/\DR Q e<=1/\ -1<=DU Q e/\DU Q e<=1/\0<=DW Q e/\DW Q e<=3:=by have:∀q:Nat,q<4->∀e:Nat,e<3-> -1<=DR q e/\DR q e<=1/\ -1<=DU q e/\DU q e<=1/\0<=DW q e/\DW q e<=3:=Dn;have:=this Q.toNat Dj e.toNat Dj;rwa[Lc a,Lc b]at this
def UR:AK
 | [.agg [.int .i64 X,.int .i64 Y,.int .u8 Q],.int .u8 e]=>some (0<=Q/\0<=e,.tup [.agg [.int .i64 (ID X Y Q e),.int .i64 (IF X Y Q e),.int .u8 (HH X Y Q e)],.int .i64 (FO X Y Q e)])
 |_=>none
def b10:Fam:=⟨Int×Int×Int×Int,λ(X,Y,Q,e)=>[.agg [.int .i64 X,.int .i64 Y,.int .u8 Q],.int .u8 e],λ(_,_,Q,e)=>0<=Q/\0<=e,
 λ(X,Y,Q,e)=>.tup [.agg [.int .i64 (ID X Y Q e),.int .i64 (IF X Y Q e),.int .u8 (HH X Y Q e)],.int .i64 (FO X Y Q e)]⟩
theorem b04:PS 136 UR:=by
 refine con [(130,PV)] (by simpa using TO) b10 (λ_ _=>none) UR ?_ ?_ Tryz.func136 Dk Dk Dk ?_
 .intro args pre s h f;unfold UR at h;split at h
  .rename_i X Y Q e;cases h;exact⟨(X,Y,Q,e),by simp[b10,BG,SV.le2,SV.le1,BJ,SV.le0],f,rfl⟩
  .cases h
 .exact Bt
 .rintro⟨X,Y,Q,e⟩ ⟨c,d⟩;refine X0 _ ?_;(repeat' first|constructor|intro h)<;>refine Lm ?_
  all_goals(try simp only[ID,IF,HH])
  all_goals(try(have a:FO X Y Q e=1:=by simp[FO];simp at h;omega);simp[a];done)
  .simp at h;have:=Rk h.1;omega
  .simp at h;omega
  all_goals(try(change AD .i64 (DR Q e+X);simp at h;have:=Rk h.1;have n:=f2e c Dj d Dj;simp only[AD];omega))
  all_goals(try(change AD .i64 (DU Q e+Y);simp at h;have:=Rk h.1;have n:=f2e c Dj d Dj;simp only[AD];omega))
  all_goals(rename_i b;simp at b)
  all_goals(change (!decide (EH (DR Q e+X) (DU Q e+Y) (DW Q e)=0))=_ at h;simp at h)
  all_goals(try(have a:FO X Y Q e=3:=by simp[FO,b,h]);simp[a];done)
  all_goals(have a:FO X Y Q e=0:=by simp[FO,b,h])
  all_goals(simp only[a,Jv])
  .rfl
  .rfl
  .rfl
def KN(W H X Y Q:Int):Int:=if AM W H=0 then(if EH X Y Q=0/\0<=X/\X<W/\0<=Y/\Y<H then 0 else 7)else 1
def Ot(W H X Y Q:Int):Int:=if KN W H X Y Q=0 then 4*(Y*W+X)+Q else 0
def kId:AK
 | [.agg [.int .i64 W,.int .i64 H],.agg [.int .i64 X,.int .i64 Y,.int .u8 Q]]=>some (0<=Q,.tup [.int .i64 (Ot W H X Y Q),.int .i64 (KN W H X Y Q)])
 |_=>none
def FId:Fam:=⟨Int×Int×Int×Int×Int,λ(W,H,X,Y,Q)=>[.agg [.int .i64 W,.int .i64 H],.agg [.int .i64 X,.int .i64 Y,.int .u8 Q]],λ(_,_,_,_,Q)=>0<=Q,
 λ(W,H,X,Y,Q)=>.tup [.int .i64 (Ot W H X Y Q),.int .i64 (KN W H X Y Q)]⟩
theorem f51{W H X Y:Int}(h:AM W H=0)(_:0<=X)(h2:X<W)(a:0<=Y)(h4:Y<H):0<=Y*W/\Y*W+X<W*H/\W*H<=256:=by
 obtain⟨a1,a2,a3,a4,a5,a6,a7⟩:=Ow h;have b:Y*W<=(H-1)*W:=Int.mul_le_mul_of_nonneg_right Dj Dj;have c:(H-1)*W=W*H-W:=by rw[Int.sub_mul,Int.one_mul,Int.mul_comm]
 have d:0<=Y*W:=Int.mul_nonneg a Dj;omega
theorem pId:PS 176 kId:=by
 refine con [(11,OZ),(130,PV)] (by simpa using⟨Ql,TO⟩) FId (λ_ _=>none) kId ?_ ?_ Tryz.func176 Dk Dk Dk ?_
 .intro args pre s h f;unfold kId at h;split at h
  .rename_i W H X Y Q;cases h;exact⟨(W,H,X,Y,Q),by simp[FId,BG,SV.le2,SV.le1,BJ,SV.le0],f,rfl⟩
  .cases h
 .exact Bt
 .rintro⟨W,H,X,Y,Q⟩ e;replace e:0<=Q:=e;refine X0 _ ?_;(repeat' first|constructor|intro h)<;>refine Lm ?_
  all_goals(try(have a:KN W H X Y Q=1:=by(simp at h;simp[KN,h]));rw[Ot,a];rfl)
  .simp at h;rw[KN,Ii h];exact(b3q W H).resolve_left h
  all_goals(try((have a:KN W H X Y Q=7:=by(rename_i d;simp at d;simp at h;rw[KN,Ih d,Ii];omega));first|exact a.symm|(rw[Ot,a];rfl)))
  all_goals(rename_i d;simp at d;simp at h)
  all_goals(have b:=f51 (X:=X) (Y:=Y) d Dj Dj Dj Dj;have c:=Rk h.1.1.1.1)
  all_goals(try(simp only[AD];omega))
  all_goals(have a:KN W H X Y Q=0:=by rw[KN,Ih d,Ih];omega)
  .rw[Ot,a];rfl
  .exact a.symm
def AQ(W H i e:Int):Int:=if JP W H i=0 then(if FO (BO W H i) (BP W H i) (BT W H i) e=0 then KN W H (ID (BO W H i) (BP W H i) (BT W H i) e) (IF (BO W H i) (BP W H i) (BT W H i) e) (HH (BO W H i) (BP W H i) (BT W H i) e)else 1)else JP W H i
def AF(W H i e:Int):Int:=if JP W H i=0 then(if FO (BO W H i) (BP W H i) (BT W H i) e=0 then Ot W H (ID (BO W H i) (BP W H i) (BT W H i) e) (IF (BO W H i) (BP W H i) (BT W H i) e) (HH (BO W H i) (BP W H i) (BT W H i) e)else 0)else 0
theorem Rt(W H i:Int):0<=BT W H i/\BT W H i<=3:=by unfold BT;split<;>omega
theorem d0f{X Y Q e:Int}(b:0<=Q)(c:0<=e):0<=HH X Y Q e/\HH X Y Q e<=3:=by
 unfold HH;split
 .rename_i h;unfold FO at h;split at h
  .rename_i a;have:=Rk a.1;have:=f2e b Dj c a.2;omega
  .cases h
 .omega
def Sc:AK
 | [.agg [.int .i64 W,.int .i64 H],.int .i64 i,.int .u8 e]=>some (0<=e,.tup [.int .i64 (AF W H i e),.int .i64 (AQ W H i e)])
 |_=>none
def b68:Fam:=⟨Int×Int×Int×Int,λ(W,H,i,e)=>[.agg [.int .i64 W,.int .i64 H],.int .i64 i,.int .u8 e],λ(_,_,_,e)=>0<=e,
 λ(W,H,i,e)=>.tup [.int .i64 (AF W H i e),.int .i64 (AQ W H i e)]⟩
theorem b13:PS 124 Sc:=by
 refine con [(104,UG),(136,UR),(176,kId)] (by simpa using⟨b1u,b04,pId⟩) b68 (λ_ _=>none) Sc ?_ ?_ Tryz.func124 Dk Dk Dk ?_
 .intro args pre s h b;unfold Sc at h;split at h
  .rename_i W H i e;cases h;exact⟨(W,H,i,e),by simp[b68,BG,SV.le2,SV.le1,BJ,SV.le0],b,rfl⟩
  .cases h
 .exact Bv
 .rintro⟨W,H,i,e⟩ a;replace a:0<=e:=a;refine X0 _ ?_;(repeat' first|constructor|intro h)<;>refine Lm ?_
  all_goals(try exact a)
  all_goals(try exact(Rt W H i).1)
  all_goals(try exact⟨(Rt W H i).1,a⟩)
  all_goals(try exact(d0f (Rt W H i).1 a).1)
  all_goals(simp at h;(try rename_i c;simp at c);simp[AQ,AF, *])
def b9f:AK
 | [.agg [.int .i64 X,.int .i64 Y,.int .u8 _]]=>some (-5000<=X/\X<=5000/\ -5000<=Y/\Y<=5000,.agg [.int .i64 (2*X+1),.int .i64 (2*Y+1)])
 |_=>none
def d2w:Fam:=⟨Int×Int×Int,λ(X,Y,Q)=>[.agg [.int .i64 X,.int .i64 Y,.int .u8 Q]],λ(X,Y,_)=> -5000<=X/\X<=5000/\ -5000<=Y/\Y<=5000,λ(X,Y,_)=>.agg [.int .i64 (2*X+1),.int .i64 (2*Y+1)]⟩
theorem f7j:PS 184 b9f:=by
 refine con [] Dm d2w (λ_ _=>none) b9f ?_ ?_ Tryz.func184 Dk Dk Dk ?_
 .intro args pre s h a;unfold b9f at h;split at h
  .rename_i X Y Q;cases h;exact⟨(X,Y,Q),by simp[d2w,BG,SV.le2,SV.le1,BJ,SV.le0],a,rfl⟩
  .cases h
 .exact Bu
 .rintro⟨X,Y,Q⟩ a;replace a: -5000<=X/\X<=5000/\ -5000<=Y/\Y<=5000:=a;exact X0e
def o1(Q:Int):Int:=tb [0,2,2,0] Q.toNat
def o2(Q:Int):Int:=tb [2,2,0,0] Q.toNat
def CJ(a b:Int):Int:=if a<b then -1 else if a>b then 1 else 0
def kNaN:AK
 | [.int .i64 _]=>some (True,.bool false)
 |_=>none
def FNaN:Fam:=⟨Int,λa=>[.int .i64 a],λ_=>True,λ_=>.bool false⟩
theorem pNaN:PS 175 kNaN:=by
 refine con [] Dm FNaN (λ_ _=>none) kNaN ?_ ?_ Tryz.func175 Dk Dk Dk ?_
 .intro args pre s h b;unfold kNaN at h;split at h
  .rename_i a;cases h;exact⟨a,by simp[FNaN,BG,SV.le2,SV.le1,SV.le0],b,rfl⟩
  .cases h
 .exact Bu
 .intro(a:Int) b;replace b:True:=b;refine X0 _ ?_;(repeat' first|constructor|intro h)<;>refine Lm ?_
  all_goals simp
def d8w:AK
 | [.int .u8 _]=>some (True,.bool false)
 |_=>none
def FNaN8:Fam:=⟨Int,λa=>[.int .u8 a],λ_=>True,λ_=>.bool false⟩
theorem pNaN8:PS 202 d8w:=by
 refine con [] Dm FNaN8 (λ_ _=>none) d8w ?_ ?_ Tryz.func202 Dk Dk Dk ?_
 .intro args pre s h b;unfold d8w at h;split at h
  .rename_i a;cases h;exact⟨a,by simp[FNaN8,BG,SV.le2,SV.le1,SV.le0],b,rfl⟩
  .cases h
 .exact Bu
 .intro(a:Int) b;replace b:True:=b;refine X0 _ ?_;(repeat' first|constructor|intro h)<;>refine Lm ?_
  all_goals simp
def SL:AK
 | [.int .i64 a,.int .i64 b]=>some (True,.int .i64 (CJ a b))
 |_=>none
def FCmp:Fam:=⟨Int×Int,λ(a,b)=>[.int .i64 a,.int .i64 b],λ(_,_)=>True,λ(a,b)=>.int .i64 (CJ a b)⟩
theorem pCmp:PS 123 SL:=by
 refine con [(175,kNaN)] (by simpa using pNaN) FCmp (λ_ _=>none) SL ?_ ?_ Tryz.func123 Dk Dk Dk ?_
 .intro args pre s h c;unfold SL at h;split at h
  .rename_i a b;cases h;exact⟨(a,b),by simp[FCmp,BG,SV.le2,SV.le1,SV.le0],c,rfl⟩
  .cases h
 .exact Bt
 .rintro⟨a,b⟩ c;replace c:True:=c;refine X0 _ ?_;(repeat' first|constructor|intro h)<;>refine Lm ?_
  all_goals(first|(simp at h;done)|(rename_i d;simp at d;done)|(simp at h;(try rename_i d;simp at d);simp[CJ, *]<;>omega))
def d72:AK
 | [.int .u8 a,.int .u8 b]=>some (True,.int .i64 (CJ a b))
 |_=>none
def FCmp8:Fam:=⟨Int×Int,λ(a,b)=>[.int .u8 a,.int .u8 b],λ(_,_)=>True,λ(a,b)=>.int .i64 (CJ a b)⟩
theorem pCmp8:PS 166 d72:=by
 refine con [(202,d8w)] (by simpa using pNaN8) FCmp8 (λ_ _=>none) d72 ?_ ?_ Tryz.func166 Dk Dk Dk ?_
 .intro args pre s h c;unfold d72 at h;split at h
  .rename_i a b;cases h;exact⟨(a,b),by simp[FCmp8,BG,SV.le2,SV.le1,SV.le0],c,rfl⟩
  .cases h
 .exact Bt
 .rintro⟨a,b⟩ c;replace c:True:=c;refine X0 _ ?_;(repeat' first|constructor|intro h)<;>refine Lm ?_
  all_goals(first|(simp at h;done)|(rename_i d;simp at d;done)|(simp at h;(try rename_i d;simp at d);simp[CJ, *]<;>omega))
def HU(Q:Int):Int:=tb [2,1,2,1] Q.toNat
def JL(Q:Int):Int:=tb [0,1,1,0] Q.toNat
theorem lq_le{Q:Int}(a:0<=Q)(h1:Q<=3):(HU Q=1\/HU Q=2)/\0<=JL Q/\JL Q<=1:=by have:∀q:Nat,q<4->(HU q=1\/HU q=2)/\0<=JL q/\JL q<=1:=Dn;have:=this Q.toNat Dj;rwa[Lc a]at this
def CM(Q e:Int):Int:=if e=1 then 3 else if e=2 then 4 else HU Q
def CY(X Y Q e:Int):Int:=if e=1 then X+Y+1 else if e=2 then Y-X else if HU Q=2 then Y+JL Q else X+JL Q
def Pu(X Y Q e:Int):Int:=if EH X Y Q=0/\e<=2 then(if FE (CM Q e) (CY X Y Q e)=0 then 0 else 3)else 1
def b20:AK
 | [.agg [.int .i64 X,.int .i64 Y,.int .u8 Q],.int .u8 e]=>some (0<=Q/\0<=e,.tup [.agg [.int .u8 (keep (Pu X Y Q e) (CM Q e)),.int .i64 (keep (Pu X Y Q e) (CY X Y Q e))],.int .i64 (Pu X Y Q e)])
 |_=>none
def c17:Fam:=⟨Int×Int×Int×Int,λ(X,Y,Q,e)=>[.agg [.int .i64 X,.int .i64 Y,.int .u8 Q],.int .u8 e],λ(_,_,Q,e)=>0<=Q/\0<=e,λ(X,Y,Q,e)=>.tup [.agg [.int .u8 (keep (Pu X Y Q e) (CM Q e)),.int .i64 (keep (Pu X Y Q e) (CY X Y Q e))],.int .i64 (Pu X Y Q e)]⟩
theorem d02:PS 183 b20:=by
 refine con [(130,PV),(95,Va)] (by simpa using⟨TO,c57⟩) c17 (λ_ _=>none) b20 ?_ ?_ Tryz.func183 Dk Dk Dk ?_
 .intro args pre s h a;unfold b20 at h;split at h
  .rename_i X Y Q e;cases h;exact⟨(X,Y,Q,e),by simp[c17,BG,SV.le2,SV.le1,BJ,SV.le0],a,rfl⟩
  .cases h
 .exact Bt
 .rintro⟨X,Y,Q,e⟩ a;replace a:0<=Q/\0<=e:=a;refine X0 _ ?_;(repeat' first|constructor|intro h)<;>refine Lm ?_
  all_goals(have c1:=@Rk X Y Q;have o:=@lq_le Q a.1)
  all_goals(try simp only[AD])
  all_goals(simp only[HU,JL]at o)
  all_goals grind[Pu,CM,CY,keep,HU,JL]
def QI(a b c d e f:Int):Int:=if CJ a b=0 then(if CJ c d=0 then CJ e f else CJ c d)else CJ a b
def f01(a b c d e f:Int)(i:Nat):List SV:=[.int .i64 (tb [a,c,e] i),.int .i64 (tb [b,d,f] i)]
def kOrd:AK
 | [.sl 2 3 g _]=>match g 0,g 1,g 2 with
   | [.int .i64 a,.int .i64 b],[.int .i64 c,.int .i64 d],[.int .i64 e,.int .i64 f]=>some (True,.int .i64 (QI a b c d e f))
   |_,_,_=>none
 |_=>none
def FOrd:Fam:=⟨Int×Int×Int×Int×Int×Int,λ(a,b,c,d,e,f)=>[.sl 2 3 (f01 a b c d e f) none],λ_=>True,λ(a,b,c,d,e,f)=>.int .i64 (QI a b c d e f)⟩
def IOrd(a b c d e f:Int):Nat->Option Inv
 |2=>some {β:=Nat,ok:=λi=>i<=3/\∀j,j<i->CJ (tb [a,c,e] j) (tb [b,d,f] j)=0,st:=λi=>⟨[⟨8,none,.int .i64 i⟩,⟨7,none,.int .i64 3⟩,⟨6,none,.sl 2 3 (f01 a b c d e f) none⟩,⟨2,none,.int .i64 0⟩],[]⟩,μ:=λi=>3-i}
 |_=>none
theorem pOrd:PS 111 kOrd:=by
 refine con [(123,SL)] (by simpa using pCmp) FOrd (λ(a,b,c,d,e,f)=>IOrd a b c d e f) kOrd ?_ ?_ Tryz.func111 Dk Dk Dk ?_
 .intro args pre s h hp;unfold kOrd at h;split at h
  .split at h
   .rename_i g cp _ _ _ a b c d e f o r w;cases h;refine⟨(a,b,c,d,e,f),?_,Im,rfl⟩;simp only[FOrd,BG,SV.le2,SV.le1,SV.le0,HW,and_true,Mn,Jv];refine QC ?_;intro i l;match i,l with
    |0,_=>exact o
    |1,_=>exact r
    |2,_=>exact w
   .cases h
  .cases h
 .exact Bu
 .rintro⟨a,b,c,d,e,f⟩-;refine X0 _ ?_;(repeat' first|constructor|intro h)<;>refine Lm ?_
  refine⟨(0:Nat),⟨Dj,λj x=>Dj⟩,?_,?_⟩
  .refine X0 _ ?_;(repeat' first|constructor|intro h)<;>refine Lm ?_
   all_goals first|exact A8
  .intro i l;obtain⟨dq,k⟩:=l;refine X0 _ ?_;(repeat' first|constructor|intro h)<;>refine Lm ?_
   all_goals(first
    |decide
    |exact⟨Dj,by grind⟩
    |(simp only[AD];grind)
    |(have n:i<3:=by grind
      have q:CJ (tb [a,c,e] i) (tb [b,d,f] i)=0:=Dr;refine⟨i+1,⟨Dj,λj x=> ?_⟩,Dj,?_⟩
      .by_cases e:j=i
       .subst e;exact q
       .exact k j Dj)
    |(have n:i<3:=by grind
      have q:¬CJ (tb [a,c,e] i) (tb [b,d,f] i)=0:=Dr;have:i=0\/i=1\/i=2:=Dj;rcases this with rfl|rfl|rfl
      .simp[tb]at q;simp[QI,q,tb]
      .have:=k 0 Dj;simp[tb]at q this;simp[QI,q,tb,this]
      .have:=k 0 Dj;have t:=k 1 Dj;simp[tb]at q this t;simp[QI,tb,this,t])
    |(have n:i=3:=by grind
      subst n;have u:=k 0 Dj;have t:=k 1 Dj;have v:=k 2 Dj;simp[tb]at u t v;simp[QI,u,t,v])
    |skip)
   all_goals exact X0f
def FF(X Y Q U V R:Int):Int:=QI Y V X U Q R
def Qe:AK
 | [.agg [.int .i64 X,.int .i64 Y,.int .u8 Q],.agg [.int .i64 U,.int .i64 V,.int .u8 R]]=>some (AD .u8 Q/\AD .u8 R,.int .i64 (FF X Y Q U V R))
 |_=>none
def b36:Fam:=⟨Int×Int×Int×Int×Int×Int,λ(X,Y,Q,U,V,R)=>[.agg [.int .i64 X,.int .i64 Y,.int .u8 Q],.agg [.int .i64 U,.int .i64 V,.int .u8 R]],λ(_,_,Q,_,_,R)=>AD .u8 Q/\AD .u8 R,λ(X,Y,Q,U,V,R)=>.int .i64 (FF X Y Q U V R)⟩
theorem b0t:PS 77 Qe:=by
 refine con [(111,kOrd)] (by simpa using pOrd) b36 (λ_ _=>none) Qe ?_ ?_ Tryz.func77 Dk Dk Dk ?_
 .intro args pre s h a;unfold Qe at h;split at h
  .rename_i X Y Q U V R;cases h;exact⟨(X,Y,Q,U,V,R),by simp[b36,BG,SV.le2,SV.le1,BJ,SV.le0],a,rfl⟩
  .cases h
 .exact Bt
 .rintro⟨X,Y,Q,U,V,R⟩ a;replace a:AD .u8 Q/\AD .u8 R:=a;refine X0 _ ?_;(repeat' first|constructor|intro h)<;>refine Lm ?_
  all_goals(first|rfl|(simp only[AD]at*;omega))
def DT(W H i e:Int):Int:=if AQ W H i e=0 then min i (AF W H i e)else 0
def ER(W H i e:Int):Int:=if AQ W H i e=0 then e else 0
def Rh:AK
 | [.agg [.int .i64 W,.int .i64 H],.int .i64 i,.int .u8 e]=>some (0<=e,.tup [.agg [.int .i64 (DT W H i e),.int .u8 (ER W H i e)],.int .i64 (AQ W H i e)])
 |_=>none
def FName:Fam:=⟨Int×Int×Int×Int,λ(W,H,i,e)=>[.agg [.int .i64 W,.int .i64 H],.int .i64 i,.int .u8 e],λ(_,_,_,e)=>0<=e,λ(W,H,i,e)=>.tup [.agg [.int .i64 (DT W H i e),.int .u8 (ER W H i e)],.int .i64 (AQ W H i e)]⟩
theorem d68:PS 140 Rh:=by
 refine con [(124,Sc)] (by simpa using b13) FName (λ_ _=>none) Rh ?_ ?_ Tryz.func140 Dk Dk Dk ?_
 .intro args pre s h a;unfold Rh at h;split at h
  .rename_i W H i e;cases h;exact⟨(W,H,i,e),by simp[FName,BG,SV.le2,SV.le1,BJ,SV.le0],a,rfl⟩
  .cases h
 .exact Bv
 .rintro⟨W,H,i,e⟩ a;replace a:0<=e:=a;refine X0 _ ?_;(repeat' first|constructor|intro h)<;>refine Lm ?_
  all_goals(try exact a)
  all_goals(simp at h;simp[DT,ER,h])
def XE:AK
 | [.agg [.int .i64 a,.int .u8 b,.int .u8 _]]=>some (True,.agg [.int .i64 a,.int .u8 b])
 |_=>none
def FUnit:Fam:=⟨Int×Int×Int,λ(a,b,c)=>[.agg [.int .i64 a,.int .u8 b,.int .u8 c]],λ(_,_,_)=>True,λ(a,b,_)=>.agg [.int .i64 a,.int .u8 b]⟩
theorem pUnit:PS 141 XE:=by
 refine con [] Dm FUnit (λ_ _=>none) XE ?_ ?_ Tryz.func141 Dk Dk Dk ?_
 .intro args pre s h d;unfold XE at h;split at h
  .rename_i a b c;cases h;exact⟨(a,b,c),by simp[FUnit,BG,SV.le2,SV.le1,BJ,SV.le0],d,rfl⟩
  .cases h
 .exact Bu
 .rintro⟨a,b,c⟩ d;replace d:True:=d;refine X0 _ ?_;(repeat' first|constructor|intro h)<;>refine Lm ?_
def HZ(a b c d:Int):Int:=if a=c then b-d else a-c
def VO:AK
 | [.agg [.int .i64 a,.int .u8 b],.agg [.int .i64 c,.int .u8 d]]=>some (AD .i64 (a-c)/\AD .u8 b/\AD .u8 d,.int .i64 (HZ a b c d))
 |_=>none
def f1h:Fam:=⟨Int×Int×Int×Int,λ(a,b,c,d)=>[.agg [.int .i64 a,.int .u8 b],.agg [.int .i64 c,.int .u8 d]],λ(a,b,c,d)=>AD .i64 (a-c)/\AD .u8 b/\AD .u8 d,λ(a,b,c,d)=>.int .i64 (HZ a b c d)⟩
theorem f08:PS 142 VO:=by
 refine con [] Dm f1h (λ_ _=>none) VO ?_ ?_ Tryz.func142 Dk Dk Dk ?_
 .intro args pre s h e;unfold VO at h;split at h
  .rename_i a b c d;cases h;exact⟨(a,b,c,d),by simp[f1h,BG,SV.le2,SV.le1,BJ,SV.le0],e,rfl⟩
  .cases h
 .exact Bt
 .rintro⟨a,b,c,d⟩ e;replace e:AD .i64 (a-c)/\AD .u8 b/\AD .u8 d:=e;refine X0 _ ?_;(repeat' first|constructor|intro h)<;>refine Lm ?_
  all_goals(simp at h)
  all_goals(try(simp[HZ,h];done))
  all_goals(simp only[AD]at e⊢;omega)
def PM(k:Int):Bool:=decide (1<=k)&&decide (k<=3)
def YH:AK
 | [.int .u8 k]=>some (True,.bool (PM k))
 |_=>none
def d35:Fam:=⟨Int,λk=>[.int .u8 k],λ_=>True,λk=>.bool (PM k)⟩
theorem f6b:PS 139 YH:=by
 refine con [] Dm d35 (λ_ _=>none) YH ?_ ?_ Tryz.func139 Dk Dk Dk ?_
 .intro args pre s h a;unfold YH at h;split at h
  .rename_i k;cases h;exact⟨k,by simp[d35,BG,SV.le2,SV.le1,SV.le0],a,rfl⟩
  .cases h
 .exact Bu
 .intro(k:Int) a;replace a:True:=a;refine X0 _ ?_;(repeat' first|constructor|intro h)<;>refine Lm ?_
  all_goals rfl
def b8b:AK
 | [.agg [.int .i64 _,.int .u8 _,.int .u8 k]]=>some (True,.bool (!PM k))
 |_=>none
def d05:Fam:=⟨Int×Int×Int,λ(a,b,k)=>[.agg [.int .i64 a,.int .u8 b,.int .u8 k]],λ(_,_,_)=>True,λ(_,_,k)=>.bool (!PM k)⟩
theorem f55:PS 138 b8b:=by
 refine con [(139,YH)] (by simpa using f6b) d05 (λ_ _=>none) b8b ?_ ?_ Tryz.func138 Dk Dk Dk ?_
 .intro args pre s h c;unfold b8b at h;split at h
  .rename_i a b k;cases h;exact⟨(a,b,k),by simp[d05,BG,SV.le2,SV.le1,BJ,SV.le0],c,rfl⟩
  .cases h
 .exact Bu
 .rintro⟨a,b,k⟩ c;replace c:True:=c;refine X0 _ ?_;(repeat' first|constructor|intro h)<;>refine Lm ?_
def MI(x:Cr):Bool:= !PM x.k
def RG(p:Cr->Bool)(l:List Cr):Int:=match l.findIdx? p with
 |some i=>i
 |none=> -1
theorem d75{p:Cr->Bool}{l:List Cr}{i:Nat}(hi:i<l.length)(h:∀j,j<i->p (l.getD j d0)=false)(a:p (l.getD i d0)=true):RG p l=i:=by
 have:l.findIdx? p=some i:=by
  rw[K3];refine⟨hi,?_,λj b=> ?_⟩
  .simpa[If,hi]using a
  .have:=h j b;have c:j<l.length:=Dj;simpa[If,c]using this
 simp[RG,this]
theorem d1h{p:Cr->Bool}{l:List Cr}(h:∀j,j<l.length->p (l.getD j d0)=false):RG p l= -1:=by
 have:l.findIdx? p=none:=by rw[Kg];intro x hx;obtain⟨j,a,rfl⟩:=Jg.1 hx;have:=h j a;simpa[If,a]using this
 simp[RG,this]
theorem d5z(p:Cr->Bool)(l:List Cr):decide (0<=RG p l)=l.any p:=by
 unfold RG;cases h:l.findIdx? p with
 |none=>
  have:=Kg.1 h;have:l.any p=false:=by rw[J5];intro x hx;simpa using this x hx
  rw[this];rfl
 |some i=>
  have:=K3.1 h;obtain⟨a,b,_⟩:=this;have:l.any p=true:=J3.2 ⟨_,Ji a,b⟩;rw[this];simp
def b14:AK
 | [x,.clo g []]=>if g=138 then match Nr x with
   |some (n,f)=>some (ML n f/\n<=100000,.int .i64 (RG MI (ED n f)))
   |none=>none
   else none
 |_=>none
def b73:Fam:=⟨List Cr,λl=>[.sl 3 l.length (DS l) none,.clo 138 []],λl=>l.length<=100000,λl=>.int .i64 (RG MI l)⟩
def c8a(l:List Cr):Nat->Option Inv
 |2=>some {β:=Nat,ok:=λi=>i<=l.length/\∀j,j<i->MI (l.getD j d0)=false,st:=λi=>⟨[⟨8,none,.int .i64 i⟩,⟨7,none,.int .i64 l.length⟩,⟨0,none,.sl 3 l.length (DS l) none⟩,⟨1,none,.clo 138 []⟩],[]⟩,μ:=λi=>l.length-i}
 |_=>none
theorem c80:PS 181 b14:=by
 refine con [(138,b8b)] (by simpa using f55) b73 (λl=>c8a l) b14 ?_ ?_ Tryz.func181 Dk Dk Dk ?_
 .intro args pre s h a;unfold b14 at h;split at h
  .split at h
   .rename_i k;subst k;split at h
    .rename_i n f hx;cases h;exact⟨ED n f,⟨IX (Qz hx a.1),⟨rfl,rfl⟩,Im⟩,by simp only[b73,RE];exact a.2,rfl⟩
    .cases h
   .cases h
  .cases h
 .exact Bt
 .intro(l:List Cr) a;replace a:l.length<=100000:=a;refine X0 _ ?_;(repeat' first|constructor|intro h)<;>refine Lm ?_
  refine⟨(0:Nat),⟨Dj,λj g=>Dj⟩,?_,?_⟩
  .exact X0c
  .rintro i ⟨dq,d⟩;refine X0 _ ?_;(repeat' first|constructor|intro h)<;>refine Lm ?_
   .simp at h;omega
   .rename_i b;simp at b;exact(d75 b d h).symm
   .simp only[AD];omega
   .rename_i b;simp at b;refine⟨i+1,⟨Dj,λj g=> ?_⟩,Dj,?_⟩
    .by_cases e:j=i
     .subst e;exact h
     .exact d j Dj
    .exact X0f
   .simp at h;exact(d1h (λj g=>d j Dj)).symm
def b2e:AK
 | [x,.clo g []]=>if g=138 then match Nr x with
   |some (n,f)=>some (ML n f/\n<=100000,.bool ((ED n f).any MI))
   |none=>none
   else none
 |_=>none
def c1e:Fam:=⟨List Cr,λl=>[.sl 3 l.length (DS l) none,.clo 138 []],λl=>l.length<=100000,λl=>.bool (l.any MI)⟩
theorem d0e:PS 137 b2e:=by
 refine con [(181,b14)] (by simpa using c80) c1e (λ_ _=>none) b2e ?_ ?_ Tryz.func137 Dk Dk Dk ?_
 .intro args pre s h a;unfold b2e at h;split at h
  .split at h
   .rename_i b;subst b;split at h
    .rename_i n f hx;cases h;exact⟨ED n f,⟨IX (Qz hx a.1),⟨rfl,rfl⟩,Im⟩,by simp only[c1e,RE];exact a.2,rfl⟩
    .cases h
   .cases h
  .cases h
 .exact Bt
 .intro(l:List Cr) a;replace a:l.length<=100000:=a;refine X0 _ ?_;(repeat' first|constructor|intro h)<;>refine Lm ?_
  .exact⟨EY l,a⟩
  .rw[CL];exact d5z _ _
structure Pt where
 W:Int
 H:Int
 l:List Cr
 deriving DecidableEq
def IG(p:Pt):SV:=.agg [.int .i64 p.W,.int .i64 p.H,.sl 3 p.l.length (DS p.l) none]
def Np:SV->Option (Prop×Pt)
 |.agg [.int .i64 W,.int .i64 H,x]=>(Nr x).map λq=>(ML q.1 q.2/\q.1<=100000,⟨W,H,ED q.1 q.2⟩)
 |_=>none
theorem Oq{s:SV}{q:Prop}{p:Pt}(h:Np s=some (q,p))(a:q):s.le2 (IG p)/\p.l.length<=100000:=by
 unfold Np at h;split at h
 .rename_i W H x;rw[In]at h;obtain⟨⟨n,f⟩,hx,h⟩:=h;cases h;refine⟨?_,by simp only[RE];exact a.2⟩;simp only[IG,SV.le2,SV.le1,BJ,and_true];exact⟨Dq,Dq,Qz hx a.1⟩
 .cases h
structure Pa where
 a:Int
 b:Int
 deriving DecidableEq
def BV:RT Pa:=⟨2,λp=>[.int .i64 p.a,.int .i64 p.b],λl=>match l with
 | [.int _ a,.int _ b]=>⟨a,b⟩
 |_=>⟨0,0⟩,⟨0,0⟩,λ_=>rfl⟩
structure Lo where
 s:Int
 a:Int
 b:Int
 deriving DecidableEq
def BR:RT Lo:=⟨3,λp=>[.int .u8 p.s,.int .i64 p.a,.int .i64 p.b],λl=>match l with
 | [.int _ s,.int _ a,.int _ b]=>⟨s,a,b⟩
 |_=>⟨0,0,0⟩,⟨0,0,0⟩,λ_=>rfl⟩
structure Sm where
 a:Cl
 b:Cl
 ps:List Pa
 ls:List Lo
 en:List Int
 deriving DecidableEq
def BA:Sm:=⟨⟨0,0,0⟩,⟨0,0,0⟩,[],[],[]⟩
def CD(s:Sm):List Int:=[s.a.x,s.a.y,s.a.q,s.b.x,s.b.y,s.b.q]
def DC(S:List Sm)(q:List Int):Bool:=S.any λs=>decide (CD s=q)
def Co(S:List Sm)(q:List Int):Nat:=S.findIdx λs=>decide (CD s=q)
def Il(s:Sm):Mem:=⟨[.int .i64 s.a.x,.int .i64 s.a.y,.int .u8 s.a.q,.int .i64 s.b.x,.int .i64 s.b.y,.int .u8 s.b.q,.osl 0,.osl 1,.osl 2],[(s.ps.length,BV.row s.ps),(s.ls.length,BR.row s.ls),(s.en.length,AC.row s.en)]⟩
def JB(S:List Sm)(i:Nat):List SV:=[.int .i64 (S.getD i BA).a.x,.int .i64 (S.getD i BA).a.y,.int .u8 (S.getD i BA).a.q,.int .i64 (S.getD i BA).b.x,.int .i64 (S.getD i BA).b.y,.int .u8 (S.getD i BA).b.q]
theorem d70(S:List Sm)(s:Sm)(q:List Int):Io (DC S) (CD s) q=DC (S++[s]) q:=by unfold Io DC;rw[List.any_append];simp only[List.any_cons,List.any_nil,Lu];rw[Bool.or_comm];congr 1;rw[Ku];simp only[Is];exact⟨λh=>h.symm,λh=>h.symm⟩
theorem d5i(S:List Sm)(s:Sm)(q:List Int)(a:DC S (CD s)=false)(h:DC (S++[s]) q=true):(if q=CD s then S.length else Co S q)=Co (S++[s]) q:=by
 unfold Co DC at*;rw[List.findIdx_append];by_cases e:q=CD s
 .subst e;have:S.findIdx (λx=>decide (CD x=CD s))=S.length:=by
   rw[List.findIdx_eq_length];intro x hx;have:=J5.1 a x hx;simpa using this
  rw[Ih rfl,this,Ii (Lg _)];simp[List.findIdx_cons]
 .rw[Ii e];have:S.any (λx=>decide (CD x=q))=true:=by
   rw[List.any_append]at h;simpa[Ne.symm e]using h
  have b:S.findIdx (λx=>decide (CD x=q))<S.length:=by rw[List.findIdx_lt_length];obtain⟨x,hx,c⟩:=J3.1 this;exact⟨x,hx,c⟩
  rw[Ih b]
theorem MX{S:List Sm}{q:List Int}(h:DC S q=true):Co S q<S.length:=by unfold Co;rw[List.findIdx_lt_length];obtain⟨x,hx,a⟩:=J3.1 h;exact⟨x,hx,a⟩
def NR(x y:Cl):Cl:=if 0<FF x.x x.y x.q y.x y.y y.q then y else x
def NF(x y:Cl):Cl:=if 0<FF x.x x.y x.q y.x y.y y.q then x else y
def IR(x y:Cl):List Int:=CD ⟨NR x y,NF x y,[],[],[]⟩
def DN(S:List Sm)(x y:Cl):List Sm:=if DC S (IR x y)=true then S else S++[⟨NR x y,NF x y,[],[],[]⟩]
structure Bd where
 p:Pt
 pl:List Mv
 im:List Cl
 ht:List Int
def f6m(b:Bd):Blk:=.cells 201 [.int .i64 b.p.W,.int .i64 b.p.H,.sl 3 b.p.l.length (DS b.p.l) none,.sl 3 b.pl.length (AE.row b.pl) none,.sl 3 b.im.length (CO.row b.im) none,.osl 1,.omp 2,.osl 3]
def Re(b:Bd)(S:List Sm):List Blk:=[f6m b,.row 3 1 b.ht.length (AC.row b.ht) none,.pmap (.ints [.i64,.i64,.u8,.i64,.i64,.u8]) 4 (DC S) (Co S),.row 205 6 S.length (JB S) none,
 .fam 161 [(253,2),(164,3),(3,1)] S.length none (λi=>Il (S.getD i BA))]
def Ro(m:Mem):Sm:=match m with
 |⟨[.int _ a,.int _ b,.int _ c,.int _ d,.int _ e,.int _ f,_,_,_],[g,h,i]⟩=>⟨⟨a,b,c⟩,⟨d,e,f⟩,BV.lst g.1 g.2,BR.lst h.1 h.2,AC.lst i.1 i.2⟩
 |_=>BA
theorem b3v(s:Sm):Ro (Il s)=s:=by have a:=RT.lst_row BV s.ps;have b:=RT.lst_row BR s.ls;have c:=RT.lst_row AC s.en;simp only[Il,Ro,a,b,c]
def JY(n:Nat)(F:Nat->Mem):List Sm:=(List.range n).map λi=>Ro (F i)
theorem VQ(S:List Sm):JY S.length (λi=>Il (S.getD i BA))=S:=by
 unfold JY;apply L4;intro i;by_cases a:i<S.length
 .simp[a,b3v]
 .simp at a;simp[a]
theorem b30(n:Nat)(F:Nat->Mem):(JY n F).length=n:=by simp[JY]
def asBd:List Blk->Option (Prop×Bd×List Sm)
 | [.cells k [.int .i64 W,.int .i64 H,l,pl,m,.osl k1,.omp k2,.osl k3],.row o p c d _,.pmap K k4 b BH,.row r s e t _,.fam u v a w F]=>
   match Nr l,AE.as pl,CO.as m with
   |some (n,f),some (g,f2),some (h,j)=>if(k=201/\k1=1/\k2=2/\k3=3/\o=3/\p=1)/\(K=.ints [.i64,.i64,.u8,.i64,.i64,.u8]/\k4=4/\r=205/\s=6)/\u=161/\v=[(253,2),(164,3),(3,1)]/\w=none then
    some (((ML n f/\n<=100000)/\AE.is g f2/\CO.is h j/\AC.is c d)/\e=a/\(∀i,i<e->t i=JB (JY a F) i)/\(∀q,b q=DC (JY a F) q)/\(∀q,b q=true->BH q=Co (JY a F) q)/\∀i,i<a->(F i).le (Il (Ro (F i))),
    ⟨⟨W,H,ED n f⟩,AE.lst g f2,CO.lst h j,AC.lst c d⟩,JY a F)
    else none
   |_,_,_=>none
 |_=>none
theorem c9h{own:List Blk}{q:Prop}{b:Bd}{S:List Sm}(h:asBd own=some (q,b,S))(d:q):own.length=5/\Qv 5 own (Re b S)/\b.p.l.length<=100000:=by
 unfold asBd at h;split at h;rotate_left
 .cases h
 rename_i T1 W H cr pl im k1 k2 k3 T2 z2 e g c1 K k4 has BH T3 z3 a kf c2 T4 Ts fn bt F;split at h;rotate_left
 .cases h
 rename_i n f n2 f2 n3 f3 h1 h2 h3;split at h;rotate_left
 .cases h
 rename_i j;obtain⟨⟨rfl,rfl,rfl,rfl,rfl,rfl⟩,⟨rfl,rfl,rfl,rfl⟩,rfl,rfl,rfl⟩:=j;simp only[Hy]at h;obtain⟨rfl,rfl,rfl⟩:=h;obtain⟨⟨q1,q2,q3,k⟩,rfl,m,o,r,s⟩:=d;refine⟨rfl,⟨⟨?_,?_⟩,⟨?_,?_,?_,?_⟩,⟨?_,o,r⟩,⟨?_,?_,?_,?_⟩,⟨?_,?_,rfl,?_⟩,Im⟩,Gs⟩
 .exact C4
 .exact D9
 .exact C4
 .exact(RT.lst_length AC e g).symm
 .exact Im
 .exact QC (AC.row_lst k)
 .rw[Ih ⟨rfl,rfl,Dn⟩];trivial
 .exact C4
 .exact(b30 a F).symm
 .exact Im
 .exact QC m
 .rw[Ih ⟨rfl,rfl,rfl⟩];trivial
 .exact(b30 a F).symm
 .intro i c;have:(JY a F).getD i BA=Ro (F i):=by simp[JY,c]
  show (F i).le (Il ((JY a F).getD i BA));rw[this];exact s i c
theorem b5v:∀l:List (Nat×(Nat->List SV)),YL l l
 | []=>trivial
 |_::r=>⟨rfl,λ_ _=>rfl,b5v r⟩
theorem Sh(m:Mem):m.le m:=⟨rfl,b5v _⟩
abbrev sN(l h:Cl):Sm:=⟨l,h,[],[],[]⟩
section
variable{S:List Sm}{l h:Cl}
theorem d09:Io (DC S) [l.x,l.y,l.q,h.x,h.y,h.q] [l.x,l.y,l.q,h.x,h.y,h.q]=true:=by simp[Io]
theorem f12:∀q,Io (DC S) [l.x,l.y,l.q,h.x,h.y,h.q] q=DC (S++[sN l h]) q:=d70 S (sN l h)
theorem d9s(a:DC S [l.x,l.y,l.q,h.x,h.y,h.q]=false):∀q,Io (DC S) [l.x,l.y,l.q,h.x,h.y,h.q] q=true->(if q=[l.x,l.y,l.q,h.x,h.y,h.q]then S.length else Co S q)=Co (S++[sN l h]) q:=λq b=>d5i S (sN l h) q a (by rw[<-f12];exact b)
theorem f5s(a:DC S [l.x,l.y,l.q,h.x,h.y,h.q]=false):(if [l.x,l.y,l.q,h.x,h.y,h.q]=[l.x,l.y,l.q,h.x,h.y,h.q]then S.length else Co S [l.x,l.y,l.q,h.x,h.y,h.q])=Co (S++[sN l h]) [l.x,l.y,l.q,h.x,h.y,h.q]:=d9s a _ d09
theorem at_len:S.length+1=(S++[sN l h]).length:=Dm
theorem at_row:∀i,i<S.length+1->(if i<S.length then JB S i else(List.map (λx:Nat×List SV=>x.snd) [(0,[SV.int .i64 l.x,.int .i64 l.y,.int .u8 l.q,.int .i64 h.x,.int .i64 h.y,.int .u8 h.q])].reverse).getD (i-S.length) [])=JB (S++[sN l h]) i:=by
 intro i hi;by_cases a:i<S.length
 .rw[Ih a];simp[JB,It a]
 .have:i=S.length:=Dj;subst this;rw[Ii (Lg _)];simp[JB]
theorem at_mem:∀i,i<S.length+1->(if i=S.length then⟨lz 0 [SV.int .i64 l.x,.int .i64 l.y,.int .u8 l.q,.int .i64 h.x,.int .i64 h.y,.int .u8 h.q,.con (.slice none 0 0),.con (.slice none 0 0),.con (.slice none 0 0)],List.map (λ_=>(0,λ_=>[])) [(253,2),(164,3),(3,1)]⟩else Il (S.getD i BA):Mem).le (Il ((S++[sN l h]).getD i BA)):=by
 intro i a;by_cases b:i=S.length
 .subst b;rw[Ih rfl];have:(S++[sN l h]).getD S.length BA=sN l h:=by simp[]
  rw[this];exact⟨rfl,rfl,λ_ a=>absurd a (Ja _),rfl,λ_ a=>absurd a (Ja _),rfl,λ_ a=>absurd a (Ja _),Im⟩
 .rw[Ii b];have:(S++[sN l h]).getD i BA=S.getD i BA:=by simp[It (show i<S.length from Dj)]
  rw[this];exact Sh _
end
def clSV(c:Cl):SV:=.agg [.int .i64 c.x,.int .i64 c.y,.int .u8 c.q]
def YP:HK:=λg own=>match g with
 | [.own 0 0,.agg [.int .i64 a,.int .i64 b,.int .u8 c],.agg [.int .i64 d,.int .i64 e,.int .u8 f]]=>(asBd own).map λq=>⟨q.1/\(AD .u8 c/\AD .u8 f)/\q.2.2.length<=1000000,.fp true 4 (Co (DN q.2.2 ⟨a,b,c⟩ ⟨d,e,f⟩) (IR ⟨a,b,c⟩ ⟨d,e,f⟩)) 0,Re q.2.1 (DN q.2.2 ⟨a,b,c⟩ ⟨d,e,f⟩),[3,4]⟩
 |_=>none
def FBAt:FamH:=⟨(Bd×List Sm)×Cl×Cl,λ(_,x,y)=>[.own 0 0,clSV x,clSV y],λ((b,S),_,_)=>Re b S,λ((b,S),x,y)=>(b.p.l.length<=100000)/\(AD .u8 x.q/\AD .u8 y.q)/\S.length<=1000000,λ((_,S),x,y)=>.fp true 4 (Co (DN S x y) (IR x y)) 0,λ((b,S),x,y)=>Re b (DN S x y),[3,4]⟩
theorem pBAt:HS 159 YP:=by
 refine HB {l:=[(77,Qe)]} ⟨Gt,Dm,Dm⟩ FBAt (λ_ _=>none) YP ?_ ?_ ?_ Tryz.func159 Dk Dk Dk ?_
 .intro args own r h g;unfold YP at h;split at h
  .rename_i a b c d e f;simp only[In]at h;obtain⟨⟨q,n,S⟩,hx,rfl⟩:=h;obtain⟨o,s,t⟩:=c9h hx g.1;exact⟨((n,S),⟨a,b,c⟩,⟨d,e,f⟩),⟨Dt,by simp[clSV,SV.le2,SV.le1,BJ,SV.le0],by simp[clSV,SV.le2,SV.le1,BJ,SV.le0],Im⟩,o,s,⟨t,g.2⟩,rfl,rfl,rfl⟩
  .cases h
 .exact Bv
 .intro i;show 5<=5;decide
 .rintro⟨⟨b,S⟩,x,y⟩ μ g;replace g:(b.p.l.length<=100000)/\(AD .u8 x.q/\AD .u8 y.q)/\S.length<=1000000:=g;have cT:decide (0<FF x.x x.y x.q y.x y.y y.q)=true->IR x y=[y.x,y.y,y.q,x.x,x.y,x.q]/\(DC S [y.x,y.y,y.q,x.x,x.y,x.q]=false->DN S x y=S++[sN y x])/\(DC S [y.x,y.y,y.q,x.x,x.y,x.q]=true->DN S x y=S):=by
   intro k;have ge:=Jw k;have e:IR x y=[y.x,y.y,y.q,x.x,x.y,x.q]:=by simp[IR,CD,NR,NF,ge]
   exact Da
  have u:decide (0<FF x.x x.y x.q y.x y.y y.q)=false->IR x y=[x.x,x.y,x.q,y.x,y.y,y.q]/\(DC S [x.x,x.y,x.q,y.x,y.y,y.q]=false->DN S x y=S++[sN x y])/\(DC S [x.x,x.y,x.q,y.x,y.y,y.q]=true->DN S x y=S):=by
   intro k;have ge:=M5 k;have e:IR x y=[x.x,x.y,x.q,y.x,y.y,y.q]:=by simp[IR,CD,NR,NF,ge]
   exact Da
  refine X0 _ ?_;(repeat' first|constructor|intro h)<;>refine Lm ?_
  all_goals(first
   |exact g.2.1
   |exact B8
   |exact⟨Dj,LC Dk Dj⟩
   |(obtain⟨e1,m,j⟩:=cT Dp
     first
      |(have hk:DC S [y.x,y.y,y.q,x.x,x.y,x.q]=false:=by simpa using h
        first
         |exact d09
         |(rw[m hk]
           first
            |exact Ba))
      |(have hk:DC S [y.x,y.y,y.q,x.x,x.y,x.q]=true:=by simpa using h
        first
         |exact hk
         |exact Lz List.length (j hk).symm
         |(rw[j hk]
           first
            |exact Bb
            |exact B8
            |rfl
            |exact B7
            |(rw[e1];exact λ_=>rfl))))
   |(obtain⟨e1,m,j⟩:=u Dp
     first
      |(have hk:DC S [x.x,x.y,x.q,y.x,y.y,y.q]=false:=by simpa using h
        first
         |exact d09
         |(rw[m hk]
           first
            |exact Ba))
      |(have hk:DC S [x.x,x.y,x.q,y.x,y.y,y.q]=true:=by simpa using h
        first
         |exact hk
         |exact Lz List.length (j hk).symm
         |(rw[j hk]
           first
            |exact Bb
            |exact B8
            |rfl
            |exact B7
            |(rw[e1];exact λ_=>rfl))))
   |skip)
def sX(Q:Int):Int:=tb [0,1,0,-1] Q.toNat
def sY(Q:Int):Int:=tb [-1,0,1,0] Q.toNat
def dX(t Q:Int):Int:=MR t 0 0 (sX Q) (sY Q)
def dY(t Q:Int):Int:=MN t 0 0 (sX Q) (sY Q)
def LL(t Q:Int)(i:Nat):Bool:=and (decide (tb [0,1,0,-1] i=dX t Q)) (and (decide (tb [-1,0,1,0] i=dY t Q)) true)
def QH(t Q:Int):Nat->Int
 |0=>0
 |i+1=>bif LL t Q i then i else QH t Q i
def JO(t Q:Int):Int:=QH t Q 4
def PK(p:Int):Int:=(p-p%2).tdiv 2
def Jo(t x y X Y:Int):Int:=PK (MR t x y (2*X+1) (2*Y+1))
def KP(t x y X Y:Int):Int:=PK (MN t x y (2*X+1) (2*Y+1))
theorem po_le{t x y a b:Int}(c:0<=t)(h:DA t x y=0)(a1: -9000<=a)(a2:a<=9000)(b1: -9000<=b)(b2:b<=9000): -60000<=MR t x y a b/\MR t x y a b<=60000/\ -60000<=MN t x y a b/\MN t x y a b<=60000:=by have m:=Rr h;have r:=c37 (t:=t) (x:=a) (y:=b) (B:=9000) c m.1 Dj Dj Dj Dj;unfold MR MN keep;split<;>omega
theorem d3f{p:Int}(h1: -60000<=p)(h2:p<=60000): -60000<=PK p/\PK p<=60000:=by unfold PK;have:=Int.tdiv_eq_ediv (a:=p-p%2) (b:=2);rw[this];split<;>omega
def c33:SV:=.agg (Uv 0++Uv 1++Uv 2++Uv 3)
def IMoved:Int×Int×Int×Int×Int×Int->Nat->Option Inv
 |(t,x,y,X,Y,Q),7=>some {β:=Nat,ok:=λi=>i<=4,st:=λi=>⟨[⟨47,none,.int .i64 i⟩,⟨46,none,c33⟩,⟨7,none,.own 5 0⟩,⟨6,none,.own 4 0⟩,⟨4,none,.own 2 0⟩],[.cells 28 [.int .u8 t,.int .i64 0,.int .i64 0],.cells 47 [.int .i64 X,.int .i64 Y,.int .u8 Q],.cells 47 [.int .i64 0,.int .i64 0,.int .u8 0],.cells 269 [.int .i64 (MR t x y (2*X+1) (2*Y+1)),.int .i64 (MN t x y (2*X+1) (2*Y+1))],.cells 269 [.int .i64 (dX t Q),.int .i64 (dY t Q)],.cells 47 [.int .i64 (Jo t x y X Y),.int .i64 (KP t x y X Y),.int .u8 (QH t Q i)]]⟩,μ:=λi=>4-i}
 |_,_=>none
def c62:AK
 | [.agg [.int .u8 t,.int .i64 x,.int .i64 y],.agg [.int .i64 X,.int .i64 Y,.int .u8 Q]]=>some (DA t x y=0/\EH X Y Q=0/\0<=t/\0<=Q,.agg [.int .i64 (Jo t x y X Y),.int .i64 (KP t x y X Y),.int .u8 (JO t Q)])
 |_=>none
def f1s:Fam:=⟨Int×Int×Int×Int×Int×Int,λ(t,x,y,X,Y,Q)=>[.agg [.int .u8 t,.int .i64 x,.int .i64 y],.agg [.int .i64 X,.int .i64 Y,.int .u8 Q]],λ(t,x,y,X,Y,Q)=>DA t x y=0/\EH X Y Q=0/\0<=t/\0<=Q,λ(t,x,y,X,Y,Q)=>.agg [.int .i64 (Jo t x y X Y),.int .i64 (KP t x y X Y),.int .u8 (JO t Q)]⟩
theorem pMoved:PS 148 c62:=by
 refine con [(184,b9f),(185,b3y)] (by simpa using⟨f7j,d73⟩) f1s IMoved c62 ?_ ?_ Tryz.func148 Dk Dk Dk ?_
 .intro args pre s h d;unfold c62 at h;split at h
  .rename_i t x y X Y Q;cases h;exact⟨(t,x,y,X,Y,Q),by simp[f1s,BG,SV.le2,SV.le1,BJ,SV.le0],d,rfl⟩
  .cases h
 .exact Bt
 .rintro⟨t,x,y,X,Y,Q⟩ d;replace d:DA t x y=0/\EH X Y Q=0/\0<=t/\0<=Q:=d;refine X0 _ ?_;(repeat' first|constructor|intro h)<;>refine Lm ?_
  all_goals(have m:=Rr d.1;have c:=Rk d.2.1;have r:=po_le d.2.2.1 d.1 (a:=2*X+1) (b:=2*Y+1) Dj Dj Dj Dj)
  all_goals(first
   |exact Ap
   |(have q:=d3f r.1 r.2.1;simp only[PK]at q;simp only[AD];omega)
   |(have q:=d3f r.2.2.1 r.2.2.2;simp only[PK]at q;simp only[AD];omega)
   |refine⟨(0:Nat),Dn,?_,?_⟩)
  .exact X0c
  .intro i f;replace f:i<=4:=f;have:i=0\/i=1\/i=2\/i=3\/i=4:=Dj;rcases this with rfl|rfl|rfl|rfl|rfl;all_goals refine X0 _ ?_;(repeat' first|constructor|intro h)<;>refine Lm ?_
   all_goals(first
    |decide
    |rfl
    |exact A4
    |(refine⟨(1:Nat),Dn,Dn,?_⟩;(first|(have h:LL t Q 0=true:=h)|(have h:LL t Q 0=false:=h)))
    |(refine⟨(2:Nat),Dn,Dn,?_⟩;(first|(have h:LL t Q 1=true:=h)|(have h:LL t Q 1=false:=h)))
    |(refine⟨(3:Nat),Dn,Dn,?_⟩;(first|(have h:LL t Q 2=true:=h)|(have h:LL t Q 2=false:=h)))
    |(refine⟨(4:Nat),Dn,Dn,?_⟩;(first|(have h:LL t Q 3=true:=h)|(have h:LL t Q 3=false:=h))))
   all_goals refine X0 _ ?_;(repeat' first|constructor|intro h)<;>refine Lm ?_
   all_goals first|exact Aw|(simp only[QH,h,M4,cond_false];done)|(simp only[QH];rw[h];rfl)|skip
theorem d04(t Q:Int):∀n:Nat,0<=QH t Q n/\QH t Q n<=n
 |0=>⟨Mp _,Mp _⟩
 |n+1=>by have:=d04 t Q n;simp only[QH];cases LL t Q n<;>simp<;>omega
def GR(t x y X Y Q:Int):Int:=if DA t x y=0/\EH X Y Q=0 then(if EH (Jo t x y X Y) (KP t x y X Y) (JO t Q)=0 then 0 else 3)else 1
def Tm:AK
 | [.agg [.int .u8 t,.int .i64 x,.int .i64 y],.agg [.int .i64 X,.int .i64 Y,.int .u8 Q]]=>some (0<=t/\t<=255/\0<=Q,.tup [.agg [.int .i64 (keep (GR t x y X Y Q) (Jo t x y X Y)),.int .i64 (keep (GR t x y X Y Q) (KP t x y X Y)),.int .u8 (keep (GR t x y X Y Q) (JO t Q))],.int .i64 (GR t x y X Y Q)])
 |_=>none
def b9u:Fam:=⟨Int×Int×Int×Int×Int×Int,λ(t,x,y,X,Y,Q)=>[.agg [.int .u8 t,.int .i64 x,.int .i64 y],.agg [.int .i64 X,.int .i64 Y,.int .u8 Q]],λ(t,_,_,_,_,Q)=>0<=t/\t<=255/\0<=Q,λ(t,x,y,X,Y,Q)=>.tup [.agg [.int .i64 (keep (GR t x y X Y Q) (Jo t x y X Y)),.int .i64 (keep (GR t x y X Y Q) (KP t x y X Y)),.int .u8 (keep (GR t x y X Y Q) (JO t Q))],.int .i64 (GR t x y X Y Q)]⟩
theorem b4i:PS 105 Tm:=by
 refine con [(19,PB),(130,PV),(148,c62)] (by simpa using⟨Se,TO,pMoved⟩) b9u (λ_ _=>none) Tm ?_ ?_ Tryz.func105 Dk Dk Dk ?_
 .intro args pre s h a;unfold Tm at h;split at h
  .rename_i t x y X Y Q;cases h;exact⟨(t,x,y,X,Y,Q),by simp[b9u,BG,SV.le2,SV.le1,BJ,SV.le0],a,rfl⟩
  .cases h
 .exact Bt
 .rintro⟨t,x,y,X,Y,Q⟩ a;replace a:0<=t/\t<=255/\0<=Q:=a;refine X0 _ ?_;(repeat' first|constructor|intro h)<;>refine Lm ?_
  all_goals(first|grind|grind[GR,keep])
def EK(W H:Int):Int:=if AM W H=0 then 4*W*H else 0
def Tx:AK
 | [.agg [.int .i64 W,.int .i64 H]]=>some (True,.int .i64 (EK W H))
 |_=>none
def f1p:Fam:=⟨Int×Int,λ(W,H)=>[.agg [.int .i64 W,.int .i64 H]],λ(_,_)=>True,λ(W,H)=>.int .i64 (EK W H)⟩
theorem d0y:PS 112 Tx:=by
 refine con [(11,OZ)] (by simpa using Ql) f1p (λ_ _=>none) Tx ?_ ?_ Tryz.func112 Dk Dk Dk ?_
 .intro args pre s h a;unfold Tx at h;split at h
  .rename_i W H;cases h;exact⟨(W,H),by simp[f1p,BG,SV.le2,SV.le1,BJ,SV.le0],a,rfl⟩
  .cases h
 .exact Bu
 .rintro⟨W,H⟩ a;replace a:True:=a;refine X0 _ ?_;(repeat' first|constructor|intro h)<;>refine Lm ?_
  all_goals(have z:=@Ow W H)
  all_goals(try simp only[AD])
  all_goals grind[EK]
def ON(W H i e:Int):Int:=if AM W H=0 then(if AQ W H i e=0/\DT W H i e=i/\ER W H i e=e then 0 else 7)else 1
def MC(W H i e v:Int):Int:=if ON W H i e=0 then v else 0
theorem b2x{W H i e:Int}(h:AQ W H i e=0):JP W H i=0:=by
 unfold AQ at h;split at h
 .assumption
 .exact h
theorem b76{W H i:Int}(h:JP W H i=0):AM W H=0/\0<=i/\i<4*(W*H):=by
 unfold JP at h;split at h
 .rename_i a;have z:=Ow a;split at h
  .rename_i b;simp[RC]at b;exact⟨a,b.1,Dj⟩
  .cases h
 .cases h
def c49:AK
 | [.agg [.int .i64 W,.int .i64 H],.agg [.int .i64 i,.int .u8 e]]=>some (0<=e,.tup [.agg [.int .i64 (MC W H i e (i/4%W)),.int .i64 (MC W H i e (i/4/W)),.int .u8 (MC W H i e (i%4))],.int .i64 (ON W H i e)])
 |_=>none
def f0z:Fam:=⟨Int×Int×Int×Int,λ(W,H,i,e)=>[.agg [.int .i64 W,.int .i64 H],.agg [.int .i64 i,.int .u8 e]],λ(_,_,_,e)=>0<=e,λ(W,H,i,e)=>.tup [.agg [.int .i64 (MC W H i e (i/4%W)),.int .i64 (MC W H i e (i/4/W)),.int .u8 (MC W H i e (i%4))],.int .i64 (ON W H i e)]⟩
theorem pNamed:PS 182 c49:=by
 refine con [(11,OZ),(140,Rh),(147,Wf)] (by simpa using⟨Ql,d68,pCell⟩) f0z (λ_ _=>none) c49 ?_ ?_ Tryz.func182 Dk Dk Dk ?_
 .intro args pre s h a;unfold c49 at h;split at h
  .rename_i W H i e;cases h;exact⟨(W,H,i,e),by simp[f0z,BG,SV.le2,SV.le1,BJ,SV.le0],a,rfl⟩
  .cases h
 .exact Bt
 .rintro⟨W,H,i,e⟩ a;replace a:0<=e:=a;refine X0 _ ?_;(repeat' first|constructor|intro h)<;>refine Lm ?_
  all_goals(have z:=@Ow W H;have z2:=@b2x W H i e;have z3:=@b76 W H i;have z4:=b3q W H)
  all_goals(first|grind|grind[ON,MC])
theorem f2q{q:Cr->Bool}{l:List Cr}{i:Nat}(hi:i<l.length)(h:q (l.getD i d0)=true):l.any q=true:=by refine J3.2 ⟨l[i],Ji hi,?_⟩;simpa[If,hi]using h
theorem d56{q:Cr->Bool}{l:List Cr}(h:∀j,j<l.length->q (l.getD j d0)=false):l.any q=false:=by rw[J5];intro x hx;obtain⟨j,a,rfl⟩:=Jg.1 hx;have:=h j a;simpa[If,a]using this
theorem c8u{q:Cr->Bool}{l:List Cr}{i:Nat}(hi:i<l.length)(h:l.any q=false):q (l.getD i d0)=false:=by rw[J5]at h;have:=h l[i] (Ji hi);simpa[If,hi]using this
theorem b3x{l:List Cr}{i:Nat}(hi:i<l.length):l.getD i d0∈l:=by simp[hi]
theorem YM{W H i e:Int}(h:AM W H=0)(b:AQ W H i e=0):0<=i/\i<1024:=by
 have a:JP W H i=0:=by
  unfold AQ at b;split at b
  .assumption
  .exact b
 unfold JP at a;rw[Ih h]at a;split at a
 .rename_i c;obtain⟨h1,h2,h3,h4,h5,h6,h7⟩:=Ow h;simp[RC]at c;omega
 .cases a
def OW(p:Pt)(x:Cr):Bool:= !decide (AQ p.W p.H x.c x.e=0)|| !(decide (DT p.W p.H x.c x.e=x.c)&&(decide (ER p.W p.H x.c x.e=x.e)&&true))
def Ng(p:Pt)(i:Nat):Bool:=decide (0<=HZ (p.l.getD i d0).c (p.l.getD i d0).e (p.l.getD (i+1) d0).c (p.l.getD (i+1) d0).e)
def BF(p:Pt):Int:=if AM p.W p.H=0 then(if p.l.any MI then 1 else if p.l.any (OW p)then 7 else if(List.range (p.l.length-1)).any (Ng p)then 6 else 0)else 1
def Wg:AK
 | [x]=>match Np x with
   |some (a,p)=>some (a/\∀c∈p.l,AD .u8 c.e,.int .i64 (BF p))
   |none=>none
 |_=>none
def f4d:Fam:=⟨Pt,λp=>[IG p],λp=>p.l.length<=100000/\∀c∈p.l,AD .u8 c.e,λp=>.int .i64 (BF p)⟩
def f4p(p:Pt):Nat->Option Inv
 |7=>some {β:=Nat,ok:=λi=>i<=p.l.length/\AM p.W p.H=0/\p.l.any MI=false/\∀j,j<i->OW p (p.l.getD j d0)=false,st:=λi=>⟨[⟨21,none,.int .i64 i⟩,⟨20,none,.int .i64 p.l.length⟩,⟨19,none,.sl 3 p.l.length (DS p.l) none⟩,⟨1,none,.own 0 0⟩],[.cells 26 [.int .i64 p.W,.int .i64 p.H,.sl 3 p.l.length (DS p.l) none]]⟩,μ:=λi=>p.l.length-i}
 |14=>some {β:=Nat,ok:=λi=>1<=i/\(i=1\/i<=p.l.length)/\AM p.W p.H=0/\p.l.any MI=false/\p.l.any (OW p)=false/\∀j,j+1<i->Ng p j=false,st:=λi=>⟨[⟨8,none,.int .i64 i⟩,⟨1,none,.own 0 0⟩],[.cells 26 [.int .i64 p.W,.int .i64 p.H,.sl 3 p.l.length (DS p.l) none]]⟩,μ:=λi=>p.l.length+1-i}
 |_=>none
theorem d14:PS 102 Wg:=by
 refine con [(11,OZ),(137,b2e),(140,Rh),(141,XE),(142,VO)] (by simpa using⟨Ql,d0e,d68,pUnit,f08⟩) f4d (λp=>f4p p) Wg ?_ ?_ Tryz.func102 Dk Dk Dk ?_
 .intro args pre s h hp;unfold Wg at h;split at h
  .split at h
   .rename_i a p hx;cases h;exact Cp
   .cases h
  .cases h
 .exact Bu
 .rintro(p:Pt) hp;replace hp:p.l.length<=100000/\∀c∈p.l,AD .u8 c.e:=hp;refine X0 _ ?_;(repeat' first|constructor|intro h)<;>refine Lm ?_
  .simp at h;rw[BF,Ii h];exact(b3q p.W p.H).resolve_left h
  .exact⟨EY _,hp.1⟩
  .rename_i n;simp at n;rw[CL]at h;rw[BF,Ih n,Ih h]
  .rename_i n;simp at n;rw[CL]at h;refine⟨(0:Nat),⟨Dj,n,h,λj hj=>Dj⟩,?_,?_⟩
   .exact X0c
   .rintro i ⟨dq,b,g,r⟩;refine X0 _ ?_;(repeat' first|constructor|intro h)<;>refine Lm ?_
    .simp at h;omega
    .simp at h;have:=hp.2 _ (b3x (i:=i) h);simp only[AD]at this;exact this.1
    .rename_i d;simp at d;have e:OW p (p.l.getD i d0)=true:=h;rw[BF,Ih b,Ii (by simp[g]),Ih (f2q d e)]
    .simp only[AD];omega
    .rename_i d;simp at d;refine⟨i+1,⟨Dj,b,g,λj hj=> ?_⟩,Dj,?_⟩
     .by_cases e:j=i
      .subst e;exact h
      .exact r j Dj
     .exact X0f
    .simp at h;have m:p.l.any (OW p)=false:=d56 (λj hj=>r j Dj);refine⟨(1:Nat),⟨Dj,.inl rfl,b,g,m,λj hj=>Dj⟩,?_,?_⟩
     .exact X0c
     .rintro k ⟨k1,k2,-,-,-,k3⟩;refine X0 _ ?_;(repeat' first|constructor|intro h)<;>refine Lm ?_
      all_goals(try(simp only[AD];omega))
      all_goals(try(simp at h;omega))
      .simp at h;have o:((k:Int)-1).toNat=k-1:=Dj;rw[o,Iy];have t:=c8u (i:=k-1) Dj m;have u:=c8u (i:=k) Dj m;simp only[OW,Kv,Bool.not_eq_false',Is]at t u;have c1:=YM b t.1;have c2:=YM b u.1;refine⟨Er,hp.2 _ (b3x Dj),hp.2 _ (b3x Dj)⟩
      all_goals(have o:((k:Int)-1).toNat=k-1:=Dj)
      all_goals(have v:k-1+1=k:=Dj)
      .rename_i d;simp at d;simp only[o,Iy]at h;have q:Ng p (k-1)=true:=by simp only[Ng,v];exact h
       have:(List.range (p.l.length-1)).any (Ng p)=true:=J3.2 ⟨k-1,Jk.2 Dj,q⟩;rw[BF,Ih b,Ii (by simp[g]),Ii (by simp[m]),Ih this]
      .rename_i d;simp at d;simp only[o,Iy]at h;have q:Ng p (k-1)=false:=by simp only[Ng,v];exact h
       refine⟨k+1,⟨Dj,Dj,b,g,m,λj hj=> ?_⟩,Dj,?_⟩
       .by_cases e:j=k-1
        .subst e;exact q
        .exact k3 j Dj
       .exact X0f
      .simp at h;have:(List.range (p.l.length-1)).any (Ng p)=false:=by
        rw[J5];intro j hj;have:=k3 j Gu;simp[this]
       rw[BF,Ih b,Ii (by simp[g]),Ii (by simp[m]),Ii (by simp[this])]
def SW(W H i e:Int):Int:=if ON W H i e=0 then Pu (MC W H i e (i/4%W)) (MC W H i e (i/4/W)) (MC W H i e (i%4)) e else ON W H i e
def Sb(W H i e:Int):Int:=if ON W H i e=0 then keep (SW W H i e) (CM (i%4) e)else 0
def TG(W H i e:Int):Int:=if ON W H i e=0 then keep (SW W H i e) (CY (i/4%W) (i/4/W) (i%4) e)else 0
def b1c:AK
 | [.agg [.int .i64 W,.int .i64 H],.agg [.int .i64 i,.int .u8 e]]=>some (0<=e,.tup [.agg [.int .u8 (Sb W H i e),.int .i64 (TG W H i e)],.int .i64 (SW W H i e)])
 |_=>none
def b6n:Fam:=⟨Int×Int×Int×Int,λ(W,H,i,e)=>[.agg [.int .i64 W,.int .i64 H],.agg [.int .i64 i,.int .u8 e]],λ(_,_,_,e)=>0<=e,λ(W,H,i,e)=>.tup [.agg [.int .u8 (Sb W H i e),.int .i64 (TG W H i e)],.int .i64 (SW W H i e)]⟩
theorem c8r:PS 145 b1c:=by
 refine con [(182,c49),(183,b20)] (by simpa using⟨pNamed,d02⟩) b6n (λ_ _=>none) b1c ?_ ?_ Tryz.func145 Dk Dk Dk ?_
 .intro args pre s h a;unfold b1c at h;split at h
  .rename_i W H i e;cases h;exact⟨(W,H,i,e),by simp[b6n,BG,SV.le2,SV.le1,BJ,SV.le0],a,rfl⟩
  .cases h
 .exact Bt
 .rintro⟨W,H,i,e⟩ a;replace a:0<=e:=a;refine X0 _ ?_;(repeat' first|constructor|intro h)<;>refine Lm ?_
  all_goals(have z:0<=MC W H i e (i%4):=by(unfold MC;split<;>omega))
  all_goals(first|grind|grind[SW,Sb,TG,MC,keep])
def c6r:AK
 | [.agg [.int .i64 a,.int .u8 b,.int .u8 _],.agg [.int .i64 c,.int .u8 d]]=>some (AD .i64 (a-c)/\AD .u8 b/\AD .u8 d,.int .i64 (HZ a b c d))
 |_=>none
def d9z:Fam:=⟨Int×Int×Int×Int×Int,λ(a,b,k,c,d)=>[.agg [.int .i64 a,.int .u8 b,.int .u8 k],.agg [.int .i64 c,.int .u8 d]],λ(a,b,_,c,d)=>AD .i64 (a-c)/\AD .u8 b/\AD .u8 d,λ(a,b,_,c,d)=>.int .i64 (HZ a b c d)⟩
theorem pFind1:PS 238 c6r:=by
 refine con [(141,XE),(142,VO)] (by simpa using⟨pUnit,f08⟩) d9z (λ_ _=>none) c6r ?_ ?_ Tryz.func238 Dk Dk Dk ?_
 .intro args pre s h e;unfold c6r at h;split at h
  .rename_i a b k c d;cases h;exact⟨(a,b,k,c,d),by simp[d9z,BG,SV.le2,SV.le1,BJ,SV.le0],e,rfl⟩
  .cases h
 .exact Bt
 .rintro⟨a,b,k,c,d⟩ e;replace e:AD .i64 (a-c)/\AD .u8 b/\AD .u8 d:=e;refine X0 _ ?_;(repeat' first|constructor|intro h)<;>refine Lm ?_
  all_goals(first|exact e|rfl)
def JS(x:Cr)(a b:Int):Int:=HZ x.c x.e a b
def HQ(l:List Cr)(a b:Int):Nat:=(l.takeWhile λx=>decide (JS x a b<0)).length
def KE(l:List Cr)(a b:Int):Bool:=and (decide ((HQ l a b:Int)<l.length)) (decide (JS (l.getD (HQ l a b) d0) a b=0))
theorem c6h{a b:Int}:∀(l:List Cr) (i:Nat),i<=l.length->(∀k,k<i->JS (l.getD k d0) a b<0)->(i<l.length->0<=JS (l.getD i d0) a b)->HQ l a b=i
 | [],i,h,_,_=>by simp at h;simp[HQ,h]
 |x::l,0,_,_,h=>by have:=h Dm;simp at this;have:¬JS x a b<0:=Dj;simp[HQ,this]
 |x::l,i+1,h,c,f=>by have:=c 0 Dj;simp at this;have d:=c6h l i Dr (λk e=>by simpa using c (k+1) Dj) (λe=>by simpa using f (by simpa using e));simp only[HQ]at d⊢;simp[this,d]
def RI(l:List Cr):Prop:=∀i j,i<j->j<l.length->HZ (l.getD i d0).c (l.getD i d0).e (l.getD j d0).c (l.getD j d0).e<0
def Ra(l:List Cr):Prop:=∀x∈l,0<=x.c/\x.c<=2000/\AD .u8 x.e
def kBs:AK
 | [x,.agg [.int .i64 a,.int .u8 b],.clo g []]=>if g=238 then match Nr x with
   |some (n,f)=>some ((ML n f/\n<=100000)/\RI (ED n f)/\Ra (ED n f)/\0<=a/\a<=2000/\AD .u8 b,.tup [.int .i64 (HQ (ED n f) a b),.bool (KE (ED n f) a b)])
   |none=>none
   else none
 |_=>none
def FBs:Fam:=⟨List Cr×Int×Int,λ(l,a,b)=>[.sl 3 l.length (DS l) none,.agg [.int .i64 a,.int .u8 b],.clo 238 []],λ(l,a,b)=>l.length<=100000/\RI l/\Ra l/\0<=a/\a<=2000/\AD .u8 b,λ(l,a,b)=>.tup [.int .i64 (HQ l a b),.bool (KE l a b)]⟩
def IBs:List Cr×Int×Int->Nat->Option Inv
 |(l,a,b),3=>some {β:=Nat×Nat,ok:=λ(i,j)=>i<=j/\j<=l.length/\(∀k,k<i->JS (l.getD k d0) a b<0)/\∀k,j<=k->k<l.length->0<=JS (l.getD k d0) a b,st:=λ(i,j)=>⟨[⟨10,none,.int .i64 j⟩,⟨9,none,.int .i64 i⟩,⟨8,none,.int .i64 l.length⟩,⟨7,none,.bool false⟩,⟨6,none,.int .i64 0⟩,⟨4,none,.own 0 0⟩,⟨2,none,.clo 238 []⟩,⟨0,none,.sl 3 l.length (DS l) none⟩],[.cells 104 [.int .i64 a,.int .u8 b]]⟩,μ:=λ(i,j)=>j-i}
 |_,_=>none
theorem pBs:PS 237 kBs:=by
 refine con [(238,c6r)] (by simpa using pFind1) FBs IBs kBs ?_ ?_ Tryz.func237 Dk Dk Dk ?_
 .intro args pre s h d;unfold kBs at h;split at h
  .split at h
   .rename_i z;subst z;split at h
    .rename_i n f hx;rename_i a b _;cases h;exact⟨(ED n f,a,b),⟨IX (Qz hx d.1.1),Dz,⟨rfl,rfl⟩,Im⟩,⟨by simp only[RE];exact d.1.2,d.2⟩,rfl⟩
    .cases h
   .cases h
  .cases h
 .exact Bv
 .rintro⟨l,a,b⟩ d;replace d:l.length<=100000/\RI l/\Ra l/\0<=a/\a<=2000/\AD .u8 b:=d;refine X0 _ ?_;(repeat' first|constructor|intro h)<;>refine Lm ?_
  refine⟨((0:Nat),l.length),⟨Dj,Dj,λk m=>Dj,λk v o=>Dj⟩,?_,?_⟩
  .exact X0c
  .rintro⟨i,j⟩ ⟨v,o,r,t⟩;replace v:i<=j:=v;replace o:j<=l.length:=o;replace r:∀k,k<i->JS (l.getD k d0) a b<0:=r;replace t:∀k,j<=k->k<l.length->0<=JS (l.getD k d0) a b:=t;have g:((i:Int)+j)/2^Int.toNat 1=(((i+j)/2:Nat):Int):=by
    have:(2:Int)^Int.toNat 1=2:=rfl;rw[this];omega
   have w:∀k,k<l.length->AD .i64 ((l.getD k d0).c-a)/\AD .u8 (l.getD k d0).e/\AD .u8 b:=λk m=>by have q:=d.2.2.1 _ (b3x m);exact⟨Er,q.2.2,d.2.2.2.2.2⟩
   refine X0 _ ?_;(repeat' first|constructor|intro h)<;>refine Lm ?_
   all_goals(first
    |(have x:i<j:=by simpa using(by assumption:decide ((i:Int)<(j:Int))=true)
      first
      |exact A4
      |decide
      |(rw[g];simp only[AD];omega)
      |(rw[g];omega)
      |(rw[g,Iy];exact w _ Dj)
      |(rw[g,Iy]at h
        have h:JS (l.getD ((i+j)/2) d0) a b<0:=Jw h;refine⟨((i+j)/2+1,j),⟨Fd,o,λk m=> ?_,t⟩,by show j-((i+j)/2+1)<j-i;omega,?_⟩
        .replace m:k<(i+j)/2+1:=m;by_cases e:k=(i+j)/2
         .rw[e];exact h
         .have q:=d.2.1 k ((i+j)/2) Dj Dj;unfold JS at h⊢;unfold HZ at h q⊢;grind)
      |(rw[g,Iy]at h
        have h:0<=JS (l.getD ((i+j)/2) d0) a b:=Int.not_lt.1 (M5 h);refine⟨(i,(i+j)/2),⟨Fe,by show (i+j)/2<=l.length;omega,r,λk k1 k2=> ?_⟩,by show (i+j)/2-i<j-i;omega,?_⟩
        .replace k1:(i+j)/2<=k:=k1;by_cases e:k=(i+j)/2
         .rw[e];exact h
         .have q:=d.2.1 ((i+j)/2) k Dj Dj;unfold JS at h⊢;unfold HZ at h q⊢;grind))
    |(have x:i=j:=by(have:¬((i:Int)<(j:Int)):=by simpa using(by assumption:decide ((i:Int)<(j:Int))=false));omega
      subst x;have y:=c6h l i o r (λk=>t i (Ir _) k);first
      |(intro q;(have q:i<l.length:=by simpa using q);omega)
      |(intro q;(have q:i<l.length:=by simpa using q);exact w i q)
      |(rw[y])
      |(unfold KE;rw[y];rfl))
    |skip)
   all_goals refine X0 _ ?_;(repeat' first|constructor|intro h)<;>refine Lm ?_
   all_goals first|exact A8|(rw[g];rfl)|(rw[g];omega)|skip
def Xr:AK
 | [x,.agg [.int .i64 a,.int .u8 b]]=>match Nr x with
   |some (n,f)=>some ((ML n f/\n<=100000)/\RI (ED n f)/\Ra (ED n f)/\0<=a/\a<=2000/\AD .u8 b,.tup [.int .i64 (HQ (ED n f) a b),.bool (KE (ED n f) a b)])
   |none=>none
 |_=>none
def FFind:Fam:=⟨List Cr×Int×Int,λ(l,a,b)=>[.sl 3 l.length (DS l) none,.agg [.int .i64 a,.int .u8 b]],λ(l,a,b)=>l.length<=100000/\RI l/\Ra l/\0<=a/\a<=2000/\AD .u8 b,λ(l,a,b)=>.tup [.int .i64 (HQ l a b),.bool (KE l a b)]⟩
theorem pFind:PS 207 Xr:=by
 refine con [(237,kBs)] (by simpa using pBs) FFind (λ_ _=>none) Xr ?_ ?_ Tryz.func207 Dk Dk Dk ?_
 .intro args pre s h c;unfold Xr at h;split at h
  .split at h
   .rename_i n f hx;rename_i a b _;cases h;exact⟨(ED n f,a,b),⟨IX (Qz hx c.1.1),Dz,Im⟩,⟨by simp only[RE];exact c.1.2,c.2⟩,rfl⟩
   .cases h
  .cases h
 .exact Bt
 .rintro⟨l,a,b⟩ c;replace c:l.length<=100000/\RI l/\Ra l/\0<=a/\a<=2000/\AD .u8 b:=c;refine X0 _ ?_;(repeat' first|constructor|intro h)<;>refine Lm ?_
  all_goals(try rw[CL])
  all_goals(first|rfl|exact⟨⟨EY _,c.1⟩,c.2⟩|skip)
theorem FQ{p:Pt}(h:BF p=0):AM p.W p.H=0/\p.l.any MI=false/\p.l.any (OW p)=false/\(List.range (p.l.length-1)).any (Ng p)=false:=by unfold BF at h;grind
theorem c8h{a b c d e f:Int}(h:HZ a b c d<0)(k:HZ c d e f<0):HZ a b e f<0:=by unfold HZ at*;grind
theorem b7i{p:Pt}(h:BF p=0):RI p.l:=by
 obtain⟨_,_,_,a⟩:=FQ h;rw[J5]at a;have step:∀i,i+1<p.l.length->HZ (p.l.getD i d0).c (p.l.getD i d0).e (p.l.getD (i+1) d0).c (p.l.getD (i+1) d0).e<0:=λi hi=>by have:=a i (Jk.2 Dj);simp[Ng]at this;simpa using this
 intro i j dt;induction j with
 |zero=>omega
 |succ j d=>
  intro b;by_cases e:i=j
  .subst e;exact step i b
  .exact c8h (d Dj Dj) (step j b)
theorem d8i{p:Pt}(h:BF p=0)(b:∀c∈p.l,AD .u8 c.e):Ra p.l:=by obtain⟨d,_,a,_⟩:=FQ h;intro x hx;rw[J5]at a;have:=a x hx;simp[OW]at this;have q:=YM d this.1;exact⟨q.1,Dj,b x hx⟩
theorem nm_le{W H i e:Int}(hs:AM W H=0)(h:AQ W H i e=0):0<=DT W H i e/\DT W H i e<=2000:=by
 have q:=YM hs h;have z:=b76 (b2x h);have v:0<=AF W H i e:=by
  unfold AF;split
  .split
   .unfold Ot;split
    .rename_i b;have w:∀X Y Q:Int,KN W H X Y Q=0->0<=Q->0<=4*(Y*W+X)+Q:=λX Y Q h hQ=>by
      unfold KN at h;rw[Ih hs]at h;split at h
      .rename_i a;have:=f51 (X:=X) (Y:=Y) hs a.2.1 a.2.2.1 a.2.2.2.1 a.2.2.2.2;omega
      .cases h
     refine w _ _ _ b ?_;have q3:=(Rt W H i).1;unfold HH;split
     .unfold DW;have:∀l:List Int,(∀x∈l,0<=x)->∀n,0<=l.getD n 0:=λl c n=>by
       rw[If];cases hh:l[n]? with
       |none=>simp
       |some y=>exact c y (Ik hh)
      refine this _ (λx hx=> ?_) _;simp only[Iv,List.mem_nil_iff,or_false]at hx;rcases hx with rfl|rfl|rfl<;>exact this _ Dn _
     .omega
    .omega
   .omega
  .omega
 unfold DT;rw[Ih h];omega
def HP(p:Pt)(i e:Int):Int:=if BF p=0 then AQ p.W p.H i e else BF p
def VW(p:Pt)(i e:Int):Int:=if HP p i e=0 then DT p.W p.H i e else 0
def Wm(p:Pt)(i e:Int):Int:=if HP p i e=0 then ER p.W p.H i e else 0
def OU(p:Pt)(i e:Int):Int:=if HP p i e=0 then(HQ p.l (DT p.W p.H i e) (ER p.W p.H i e):Int)else 0
def KM(p:Pt)(i e:Int):Bool:=bif decide (HP p i e=0)then KE p.l (DT p.W p.H i e) (ER p.W p.H i e)else false
def kAt:AK
 | [x,.int .i64 i,.int .u8 e]=>match Np x with
   |some (a,p)=>some (a/\(∀c∈p.l,AD .u8 c.e)/\0<=e/\e<=255,.tup [.agg [.int .i64 (VW p i e),.int .u8 (Wm p i e)],.int .i64 (OU p i e),.bool (KM p i e),.int .i64 (HP p i e)])
   |none=>none
 |_=>none
def FAt:Fam:=⟨Pt×Int×Int,λ(p,i,e)=>[IG p,.int .i64 i,.int .u8 e],λ(p,_,e)=>p.l.length<=100000/\(∀c∈p.l,AD .u8 c.e)/\0<=e/\e<=255,λ(p,i,e)=>.tup [.agg [.int .i64 (VW p i e),.int .u8 (Wm p i e)],.int .i64 (OU p i e),.bool (KM p i e),.int .i64 (HP p i e)]⟩
theorem pAt:PS 191 kAt:=by
 refine con [(102,Wg),(140,Rh),(207,Xr)] (by simpa using⟨d14,d68,pFind⟩) FAt (λ_ _=>none) kAt ?_ ?_ Tryz.func191 Dk Dk Dk ?_
 .intro args pre s h hp;unfold kAt at h;split at h
  .split at h
   .rename_i a p hx;rename_i i e _;cases h;exact Db
   .cases h
  .cases h
 .exact Bv
 .rintro⟨p,i,e⟩ hp;replace hp:p.l.length<=100000/\(∀c∈p.l,AD .u8 c.e)/\0<=e/\e<=255:=hp;refine X0 _ ?_;(repeat' first|constructor|intro h)<;>refine Lm ?_
  all_goals(try simp only[CL]at*)
  all_goals(have g:=@nm_le p.W p.H i e;have j:=@FQ p;have k:=@b7i p;have hs:=@d8i p)
  all_goals(have m:AQ p.W p.H i e=0->ER p.W p.H i e=e:=λh=>by(unfold ER;rw[if_pos h]))
  all_goals(first
   |exact⟨⟨EY _,hp.1⟩,hp.2.1⟩
   |exact hp.2.2.1
   |(have b:BF p=0:=by simpa using(by assumption:(!decide (BF p=0))=false)
     have d:AQ p.W p.H i e=0:=by simpa using(by assumption:(!decide (AQ p.W p.H i e=0))=false)
     have f:=g (j b).1 d;first
     |(refine⟨⟨EY _,hp.1⟩,k b,hs b hp.2.1,f.1,f.2,?_⟩;rw[m d];exact⟨hp.2.2.1,hp.2.2.2⟩)
     |simp[HP,VW,Wm,OU,KM,b,d])
   |(have b:BF p=0:=by simpa using(by assumption:(!decide (BF p=0))=false)
     have d:¬AQ p.W p.H i e=0:=by simpa using(by assumption:(!decide (AQ p.W p.H i e=0))=true)
     simp[HP,VW,Wm,OU,KM,b,d];done)
   |(have b:¬BF p=0:=by simpa using(by assumption:(!decide (BF p=0))=true)
     simp[HP,VW,Wm,OU,KM,b];done)
   |skip)
theorem ptEta(p:Pt):(⟨p.W,p.H,p.l⟩:Pt)=p:=rfl
def Al(p:Pt)(i e:Int):Int:=bif KM p i e then(p.l.getD (HQ p.l (DT p.W p.H i e) (ER p.W p.H i e)) d0).k else 0
def c4j:AK
 | [x,.int .i64 i,.int .u8 e]=>match Np x with
   |some (a,p)=>some (a/\(∀c∈p.l,AD .u8 c.e)/\0<=e/\e<=255,.tup [.int .u8 (Al p i e),.int .i64 (HP p i e)])
   |none=>none
 |_=>none
def FPKind:Fam:=⟨Pt×Int×Int,λ(p,i,e)=>[IG p,.int .i64 i,.int .u8 e],λ(p,_,e)=>p.l.length<=100000/\(∀c∈p.l,AD .u8 c.e)/\0<=e/\e<=255,λ(p,i,e)=>.tup [.int .u8 (Al p i e),.int .i64 (HP p i e)]⟩
theorem pPKind:PS 160 c4j:=by
 refine con [(191,kAt)] (by simpa using pAt) FPKind (λ_ _=>none) c4j ?_ ?_ Tryz.func160 Dk Dk Dk ?_
 .intro args pre s h hp;unfold c4j at h;split at h
  .split at h
   .rename_i a p hx;rename_i i e _;cases h;exact Db
   .cases h
  .cases h
 .exact Bv
 .rintro⟨p,i,e⟩ hp;replace hp:p.l.length<=100000/\(∀c∈p.l,AD .u8 c.e)/\0<=e/\e<=255:=hp;refine X0 _ ?_;(repeat' first|constructor|intro h)<;>refine Lm ?_
  all_goals(try simp only[CL,ptEta]at*)
  all_goals(have g:KM p i e=true->HP p i e=0/\KE p.l (DT p.W p.H i e) (ER p.W p.H i e)=true:=λh=>by(unfold KM at h;grind))
  all_goals(first
   |exact⟨⟨EY _,hp.1⟩,hp.2⟩
   |rfl
   |(have d:KM p i e=true:=by grind
     have b:=g d;have f:OU p i e=(HQ p.l (DT p.W p.H i e) (ER p.W p.H i e):Int):=by unfold OU;rw[if_pos b.1]
     first
     |(show 0<=OU p i e/\OU p i e<_
       rw[f];have q:=b.2;unfold KE at q;grind)
     |(show (p.l.getD (OU p i e).toNat d0).k=_
       rw[f,Iy];unfold Al;rw[d,cond_true])
     |exact b.1.symm)
   |(have d:HP p i e=0->KM p i e=false:=by grind
     have b:KM p i e=false:=by grind
     unfold Al;rw[b,cond_false])
   |skip)
theorem cl_eta(c:Cl):(⟨c.x,c.y,c.q⟩:Cl)=c:=rfl
def FD(b:Bd)(u e:Int):Cl:=
 ⟨keep (GR (b.pl.getD u.toNat AE.d).t (b.pl.getD u.toNat AE.d).x (b.pl.getD u.toNat AE.d).y (ID (BO b.p.W b.p.H u) (BP b.p.W b.p.H u) (BT b.p.W b.p.H u) e) (IF (BO b.p.W b.p.H u) (BP b.p.W b.p.H u) (BT b.p.W b.p.H u) e) (HH (BO b.p.W b.p.H u) (BP b.p.W b.p.H u) (BT b.p.W b.p.H u) e)) (Jo (b.pl.getD u.toNat AE.d).t (b.pl.getD u.toNat AE.d).x (b.pl.getD u.toNat AE.d).y (ID (BO b.p.W b.p.H u) (BP b.p.W b.p.H u) (BT b.p.W b.p.H u) e) (IF (BO b.p.W b.p.H u) (BP b.p.W b.p.H u) (BT b.p.W b.p.H u) e)),
  keep (GR (b.pl.getD u.toNat AE.d).t (b.pl.getD u.toNat AE.d).x (b.pl.getD u.toNat AE.d).y (ID (BO b.p.W b.p.H u) (BP b.p.W b.p.H u) (BT b.p.W b.p.H u) e) (IF (BO b.p.W b.p.H u) (BP b.p.W b.p.H u) (BT b.p.W b.p.H u) e) (HH (BO b.p.W b.p.H u) (BP b.p.W b.p.H u) (BT b.p.W b.p.H u) e)) (KP (b.pl.getD u.toNat AE.d).t (b.pl.getD u.toNat AE.d).x (b.pl.getD u.toNat AE.d).y (ID (BO b.p.W b.p.H u) (BP b.p.W b.p.H u) (BT b.p.W b.p.H u) e) (IF (BO b.p.W b.p.H u) (BP b.p.W b.p.H u) (BT b.p.W b.p.H u) e)),
  keep (GR (b.pl.getD u.toNat AE.d).t (b.pl.getD u.toNat AE.d).x (b.pl.getD u.toNat AE.d).y (ID (BO b.p.W b.p.H u) (BP b.p.W b.p.H u) (BT b.p.W b.p.H u) e) (IF (BO b.p.W b.p.H u) (BP b.p.W b.p.H u) (BT b.p.W b.p.H u) e) (HH (BO b.p.W b.p.H u) (BP b.p.W b.p.H u) (BT b.p.W b.p.H u) e)) (JO (b.pl.getD u.toNat AE.d).t (HH (BO b.p.W b.p.H u) (BP b.p.W b.p.H u) (BT b.p.W b.p.H u) e))⟩
def EO(b:Bd)(u:Int):Cl:=b.im.getD u.toNat CO.d
theorem oth_eq(b:Bd)(u e:Int):(⟨keep (GR (b.pl.getD u.toNat AE.d).t (b.pl.getD u.toNat AE.d).x (b.pl.getD u.toNat AE.d).y (ID (BO b.p.W b.p.H u) (BP b.p.W b.p.H u) (BT b.p.W b.p.H u) e) (IF (BO b.p.W b.p.H u) (BP b.p.W b.p.H u) (BT b.p.W b.p.H u) e) (HH (BO b.p.W b.p.H u) (BP b.p.W b.p.H u) (BT b.p.W b.p.H u) e)) (Jo (b.pl.getD u.toNat AE.d).t (b.pl.getD u.toNat AE.d).x (b.pl.getD u.toNat AE.d).y (ID (BO b.p.W b.p.H u) (BP b.p.W b.p.H u) (BT b.p.W b.p.H u) e) (IF (BO b.p.W b.p.H u) (BP b.p.W b.p.H u) (BT b.p.W b.p.H u) e)),keep (GR (b.pl.getD u.toNat AE.d).t (b.pl.getD u.toNat AE.d).x (b.pl.getD u.toNat AE.d).y (ID (BO b.p.W b.p.H u) (BP b.p.W b.p.H u) (BT b.p.W b.p.H u) e) (IF (BO b.p.W b.p.H u) (BP b.p.W b.p.H u) (BT b.p.W b.p.H u) e) (HH (BO b.p.W b.p.H u) (BP b.p.W b.p.H u) (BT b.p.W b.p.H u) e)) (KP (b.pl.getD u.toNat AE.d).t (b.pl.getD u.toNat AE.d).x (b.pl.getD u.toNat AE.d).y (ID (BO b.p.W b.p.H u) (BP b.p.W b.p.H u) (BT b.p.W b.p.H u) e) (IF (BO b.p.W b.p.H u) (BP b.p.W b.p.H u) (BT b.p.W b.p.H u) e)),keep (GR (b.pl.getD u.toNat AE.d).t (b.pl.getD u.toNat AE.d).x (b.pl.getD u.toNat AE.d).y (ID (BO b.p.W b.p.H u) (BP b.p.W b.p.H u) (BT b.p.W b.p.H u) e) (IF (BO b.p.W b.p.H u) (BP b.p.W b.p.H u) (BT b.p.W b.p.H u) e) (HH (BO b.p.W b.p.H u) (BP b.p.W b.p.H u) (BT b.p.W b.p.H u) e)) (JO (b.pl.getD u.toNat AE.d).t (HH (BO b.p.W b.p.H u) (BP b.p.W b.p.H u) (BT b.p.W b.p.H u) e))⟩:Cl)=FD b u e:=rfl
theorem im_eq(b:Bd)(u:Int):b.im.getD u.toNat CO.d=EO b u:=rfl
def IB(b:Bd)(u e:Int)(s:Sm):Sm:=
 if AQ b.p.W b.p.H u e=0 then
  if AF b.p.W b.p.H u e<u then s
  else if Al b.p u e=0 then {s with ps:=s.ps++[if EO b u=s.b then⟨AF b.p.W b.p.H u e,u⟩else⟨u,AF b.p.W b.p.H u e⟩]}
  else {s with ls:=s.ls++[⟨if EO b u=s.b then 1 else 0,if b.ht.getD u.toNat 0<b.ht.getD (AF b.p.W b.p.H u e).toNat 0 then u else AF b.p.W b.p.H u e,if b.ht.getD u.toNat 0<b.ht.getD (AF b.p.W b.p.H u e).toNat 0 then AF b.p.W b.p.H u e else u⟩]}
 else {s with en:=s.en++[u]}
def GL(b:Bd)(u e:Int)(S:List Sm):List Sm:=
 let T:=DN S (EO b u) (FD b u e)
 let i:=Co T (IR (EO b u) (FD b u e))
 T.set i (IB b u e (T.getD i BA))
theorem f5c(b:Bd)(u e:Int)(s:Sm):CD (IB b u e s)=CD s:=by
 unfold IB;split
 .split
  .rfl
  .split<;>rfl
 .rfl
theorem Xf{α:Type}{T:List α}{i j:Nat}{x d:α}(h:i<T.length):(T.set i x).getD j d=if j=i then x else T.getD j d:=by
 by_cases e:j=i
 .subst e;simp[h]
 .simp[Iw (Ne.symm e),e]
theorem b1t(T:List Sm)(i:Nat)(s:Sm)(h:CD s=CD (T.getD i BA)):(T.set i s).map CD=T.map CD:=by
 apply L4;intro j;simp only[Jb];by_cases e:j=i
 .subst e;by_cases a:j<T.length
  .simp[a,h]
  .simp[a]
 .rw[Iw (Ne.symm e)]
theorem SG(S:List Sm)(q:List Int):DC S q=(S.map CD).any λk=>decide (k=q):=by simp[DC,List.any_map,Function.comp_def]
theorem Uf(S:List Sm)(q:List Int):Co S q=(S.map CD).findIdx λk=>decide (k=q):=by simp[Co,List.findIdx_map,Function.comp_def]
theorem b3f(b:Bd)(u e:Int)(S:List Sm):(GL b u e S).map CD=(DN S (EO b u) (FD b u e)).map CD:=b1t _ _ _ (f5c b u e _)
theorem d74(b:Bd)(u e:Int)(S:List Sm):∀q,DC (DN S (EO b u) (FD b u e)) q=DC (GL b u e S) q:=λq=>by rw[SG,SG,b3f]
theorem d66(b:Bd)(u e:Int)(S:List Sm):∀q,DC (DN S (EO b u) (FD b u e)) q=true->Co (DN S (EO b u) (FD b u e)) q=Co (GL b u e S) q:=λq _=>by rw[Uf,Uf,b3f]
theorem c4s(b:Bd)(u e:Int)(S:List Sm):(GL b u e S).length=(DN S (EO b u) (FD b u e)).length:=by simp[GL]
theorem c0g{S T:List Sm}(h:S.map CD=T.map CD)(i:Nat)(hi:i<S.length):JB S i=JB T i:=by
 have a:S.length=T.length:=by simpa using Lz List.length h
 have e:CD (S.getD i BA)=CD (T.getD i BA):=by have:=Lz (λl=>l[i]?) h;simp only[Jb,Ig hi,Ig (a▸hi),Ju,J8]at this;simpa[If,hi,a▸hi]using this
 simp only[CD,Ia]at e;obtain⟨b,c,d,f,g,j⟩:=e;simp only[JB,b,c,d,f,g,j]
theorem d6a(b:Bd)(u e:Int)(S:List Sm):∀i,i<(DN S (EO b u) (FD b u e)).length->JB (DN S (EO b u) (FD b u e)) i=JB (GL b u e S) i:=λi a=>c0g (b3f b u e S).symm i a
theorem Tv(S:List Sm)(x y:Cl):DC (DN S x y) (IR x y)=true:=by
 unfold DN;split
 .assumption
 .simp[DC,IR,CD]
theorem f3n(b:Bd)(u e:Int)(S:List Sm):(GL b u e S).getD (Co (DN S (EO b u) (FD b u e)) (IR (EO b u) (FD b u e))) BA=IB b u e ((DN S (EO b u) (FD b u e)).getD (Co (DN S (EO b u) (FD b u e)) (IR (EO b u) (FD b u e))) BA):=by unfold GL;rw[Xf (MX (Tv S _ _)),Ih rfl]
theorem f5t{b:Bd}{u e:Int}{S:List Sm}{j:Nat}(h:¬j=Co (DN S (EO b u) (FD b u e)) (IR (EO b u) (FD b u e))):(GL b u e S).getD j BA=(DN S (EO b u) (FD b u e)).getD j BA:=by unfold GL;rw[Xf (MX (Tv S _ _)),Ii h]
theorem d0v{b:Bd}{u e:Int}{s:Sm}(h:(!decide (AQ b.p.W b.p.H u e=0))=true):IB b u e s={s with en:=s.en++[u]}:=by have h:¬AQ b.p.W b.p.H u e=0:=Dr;unfold IB;rw[if_neg h]
theorem d96{b:Bd}{u e:Int}{s:Sm}(h:(!decide (AQ b.p.W b.p.H u e=0))=false)(a:decide (AF b.p.W b.p.H u e<u)=true):IB b u e s=s:=by have h:AQ b.p.W b.p.H u e=0:=Dr;unfold IB;rw[if_pos h,if_pos (of_decide_eq_true a)]
theorem d9m{b:Bd}{u e:Int}{s:Sm}(h:(!decide (AQ b.p.W b.p.H u e=0))=false)(a:decide (AF b.p.W b.p.H u e<u)=false)(c:Al b.p u e=0):IB b u e s={s with ps:=s.ps++[if EO b u=s.b then⟨AF b.p.W b.p.H u e,u⟩else⟨u,AF b.p.W b.p.H u e⟩]}:=by have h:AQ b.p.W b.p.H u e=0:=Dr;unfold IB;rw[if_pos h,if_neg (of_decide_eq_false a),if_pos c]
theorem c4k{b:Bd}{u e:Int}{s:Sm}(h:(!decide (AQ b.p.W b.p.H u e=0))=false)(a:decide (AF b.p.W b.p.H u e<u)=false)(c:¬Al b.p u e=0):IB b u e s={s with ls:=s.ls++[⟨if EO b u=s.b then 1 else 0,if b.ht.getD u.toNat 0<b.ht.getD (AF b.p.W b.p.H u e).toNat 0 then u else AF b.p.W b.p.H u e,if b.ht.getD u.toNat 0<b.ht.getD (AF b.p.W b.p.H u e).toNat 0 then AF b.p.W b.p.H u e else u⟩]}:=by have h:AQ b.p.W b.p.H u e=0:=Dr;unfold IB;rw[if_pos h,if_neg (of_decide_eq_false a),if_neg c]
theorem Ud{α:Type}{R:RT α}{l:List α}{x:α}{c:List SV}(a:c=R.sv x):∀i,i<l.length+1->(if i<l.length then R.row l i else(List.map (λx:Nat×List SV=>x.snd) [(0,c)].reverse).getD (i-l.length) [])=R.row (l++[x]) i:=by
 intro i hi;by_cases h:i<l.length
 .rw[Ih h,b06 R h]
 .have:i=l.length:=Dj;subst this;rw[Ii h,Ka,YB,a];rfl
theorem mem_en{s:Sm}{x:Int}{c:List SV}{m:Mem}(h:m=⟨(Il s).cs,[(s.ps.length,BV.row s.ps),(s.ls.length,BR.row s.ls),(s.en.length+1,λi=>if i<s.en.length then AC.row s.en i else(List.map (λx:Nat×List SV=>x.snd) [(0,c)].reverse).getD (i-s.en.length) [])]⟩)(a:c=AC.sv x):m.le (Il {s with en:=s.en++[x]}):=by subst h;exact⟨rfl,rfl,λ_ _=>rfl,rfl,λ_ _=>rfl,Dm,Ud a,Im⟩
theorem d9t{s:Sm}{x:Pa}{c:List SV}{m:Mem}(h:m=⟨(Il s).cs,[(s.ps.length+1,λi=>if i<s.ps.length then BV.row s.ps i else(List.map (λx:Nat×List SV=>x.snd) [(0,c)].reverse).getD (i-s.ps.length) []),(s.ls.length,BR.row s.ls),(s.en.length,AC.row s.en)]⟩)(a:c=BV.sv x):m.le (Il {s with ps:=s.ps++[x]}):=by subst h;exact⟨rfl,Dm,Ud a,rfl,λ_ _=>rfl,rfl,λ_ _=>rfl,Im⟩
theorem f0p{s:Sm}{x:Lo}{c:List SV}{m:Mem}(h:m=⟨(Il s).cs,[(s.ps.length,BV.row s.ps),(s.ls.length+1,λi=>if i<s.ls.length then BR.row s.ls i else(List.map (λx:Nat×List SV=>x.snd) [(0,c)].reverse).getD (i-s.ls.length) []),(s.en.length,AC.row s.en)]⟩)(a:c=BR.sv x):m.le (Il {s with ls:=s.ls++[x]}):=by subst h;exact⟨rfl,rfl,λ_ _=>rfl,Dm,Ud a,rfl,λ_ _=>rfl,Im⟩
theorem cl_of{a b:Cl}(h:(decide (a.x=b.x)&&(decide (a.y=b.y)&&decide (a.q=b.q)))=true):a=b:=by obtain⟨x,y,q⟩:=a;obtain⟨x',y',q'⟩:=b;simp at h;obtain⟨rfl,rfl,rfl⟩:=h;rfl
theorem f1m{a b:Cl}(h:(decide (a.x=b.x)&&(decide (a.y=b.y)&&decide (a.q=b.q)))=false):¬a=b:=by rintro rfl;simp at h
theorem d4v{b:Bd}{u e:Int}{s:Sm}(h:(!decide (AQ b.p.W b.p.H u e=0))=false)(c:decide (AF b.p.W b.p.H u e<u)=false)(f:decide (Al b.p u e=0)=false)(a:decide (b.ht.getD u.toNat AC.d<b.ht.getD (AF b.p.W b.p.H u e).toNat AC.d)=true):IB b u e s={s with ls:=s.ls++[⟨if EO b u=s.b then 1 else 0,u,AF b.p.W b.p.H u e⟩]}:=by have a:b.ht.getD u.toNat 0<b.ht.getD (AF b.p.W b.p.H u e).toNat 0:=Jw a;rw[c4k h c (M5 f),Ih a,Ih a]
theorem d0n{b:Bd}{u e:Int}{s:Sm}(h:(!decide (AQ b.p.W b.p.H u e=0))=false)(c:decide (AF b.p.W b.p.H u e<u)=false)(f:decide (Al b.p u e=0)=false)(a:decide (b.ht.getD u.toNat AC.d<b.ht.getD (AF b.p.W b.p.H u e).toNat AC.d)=false):IB b u e s={s with ls:=s.ls++[⟨if EO b u=s.b then 1 else 0,AF b.p.W b.p.H u e,u⟩]}:=by have a:¬b.ht.getD u.toNat 0<b.ht.getD (AF b.p.W b.p.H u e).toNat 0:=M5 a;rw[c4k h c (M5 f),Ii a,Ii a]
theorem mvQ_le(t Q:Int):0<=JO t Q/\JO t Q<=4:=d04 t Q 4
theorem oth_q(b:Bd)(u e:Int):AD .u8 (FD b u e).q:=by have:=mvQ_le (b.pl.getD u.toNat AE.d).t (HH (BO b.p.W b.p.H u) (BP b.p.W b.p.H u) (BT b.p.W b.p.H u) e);unfold FD keep;simp only[AD];split<;>omega
theorem b8k{α:Type}{P:α->Prop}{l:List α}{d:α}(h:∀x∈l,P x)(a:P d)(i:Nat):P (l.getD i d):=by
 rw[If];cases e:l[i]? with
 |none=>exact a
 |some x=>exact h x (Ik e)
theorem d7p{S:List Sm}{x y:Cl}(h:∀s∈S,s.ps.length<=1000000/\s.ls.length<=1000000/\s.en.length<=1000000)(i:Nat):((DN S x y).getD i BA).ps.length<=1000000/\((DN S x y).getD i BA).ls.length<=1000000/\((DN S x y).getD i BA).en.length<=1000000:=by
 refine b8k (P:=λs:Sm=>s.ps.length<=1000000/\s.ls.length<=1000000/\s.en.length<=1000000) (λs hs=> ?_) (by simp[BA]) i;unfold DN at hs;split at hs
 .exact h s hs
 .rcases Jd.1 hs with hs|hs
  .exact h s hs
  .rw[J6.1 hs];simp
theorem d86{α:Type}{R:RT α}{l:List α}{x:α}{z:Nat->List SV}(a:z 0=R.sv x):∀i,i<l.length+1->(if i<l.length then R.row l i else z (i-l.length))=R.row (l++[x]) i:=by
 intro i hi;by_cases h:i<l.length
 .rw[Ih h,b06 R h]
 .have:i=l.length:=Dj;subst this;rw[Ii h,Ka,a,YB]
def bdIn(b:Bd)(S:List Sm)(u e:Int):Prop:=
 (b.p.l.length<=100000/\∀c∈b.p.l,AD .u8 c.e)/\(0<=e/\e<=255)/\(0<=u/\u<(b.pl.length:Int)/\u<(b.im.length:Int)/\u<(b.ht.length:Int))/\(AQ b.p.W b.p.H u e=0->0<=AF b.p.W b.p.H u e/\AF b.p.W b.p.H u e<(b.ht.length:Int))/\
 (∀m∈b.pl,0<=m.t/\m.t<=255)/\(∀c∈b.im,AD .u8 c.q)/\S.length<=1000000/\∀s∈S,s.ps.length<=1000000/\s.ls.length<=1000000/\s.en.length<=1000000
def c4c:HK:=λa own=>match a with
 | [.own 0 0,.int .i64 u,.int .u8 e]=>(asBd own).map λq=>⟨q.1/\bdIn q.2.1 q.2.2 u e,.tup [],Re q.2.1 (GL q.2.1 u e q.2.2),[3,4]⟩
 |_=>none
def FBMeet:FamH:=⟨(Bd×List Sm)×Int×Int,λ(_,u,e)=>[.own 0 0,.int .i64 u,.int .u8 e],λ((b,S),_,_)=>Re b S,λ((b,S),u,e)=>bdIn b S u e,λ_=>.tup [],λ((b,S),u,e)=>Re b (GL b u e S),[3,4]⟩
theorem pBMeet:HS 114 c4c:=by
 refine HB {l:=[(104,UG),(136,UR),(105,Tm),(124,Sc),(160,c4j)],h:=[(159,YP)],c2:=true,gr:=λid=>bif Nat.beq id 3 then [.focus 12,.keep [0,1,2,6,8,10,12,13,14,15,17,68,81,103,117,136,151]]else [.keep [0,1,2,6,8,10,12,13,14,15,17,68,81,103,117,136,151]],G:={gx:=λ_=>[.unfocus 4]}} ⟨by simpa using⟨b1u,b04,b4i,b13,pPKind⟩,Dm,by simpa using pBAt⟩ FBMeet (λ_ _=>none) c4c ?_ ?_ ?_ Tryz.func114 Dk Dk Dk ?_
 .intro args own r h a;unfold c4c at h;split at h
  .rename_i u e;simp only[In]at h;obtain⟨⟨q,n,S⟩,hx,rfl⟩:=h;obtain⟨o,s,h3⟩:=c9h hx a.1;exact⟨((n,S),u,e),⟨Dt,Dt,Dt,Im⟩,o,s,a.2,rfl,rfl,rfl⟩
  .cases h
 .exact Bv
 .intro i;show 5<=5;decide
 .rintro⟨⟨b,S⟩,u,e⟩ μ a;replace a:bdIn b S u e:=a;have g:=Rt b.p.W b.p.H u;have v:=d0f (X:=BO b.p.W b.p.H u) (Y:=BP b.p.W b.p.H u) g.1 a.2.1.1;have w:=oth_q b u e;have z:AD .u8 (EO b u).q:=b8k (P:=λc:Cl=>AD .u8 c.q) a.2.2.2.2.2.1 (by show (0:Int)<=0/\(0:Int)<=255;omega) u.toNat
  have k:=b8k (P:=λm:Mv=>0<=m.t/\m.t<=255) (d:=AE.d) a.2.2.2.2.1 Dn u.toNat
  have A:=MX (Tv S (EO b u) (FD b u e));have q8:=d7p (x:=EO b u) (y:=FD b u e) a.2.2.2.2.2.2.2 (Co (DN S (EO b u) (FD b u e)) (IR (EO b u) (FD b u e)));have B:S.length<=1000000:=a.2.2.2.2.2.2.1;refine X0 _ ?_;(repeat' first|constructor|intro h)<;>refine Lm ?_
  all_goals(try simp only[CL,RT.lst_row,VQ,oth_eq,cl_eta,im_eq]at*)
  all_goals(first
   |exact λ_ _=>Im
   |exact B8
   |exact d74 _ _ _ _
   |exact d66 _ _ _ _
   |exact d6a _ _ _ _
   |exact(c4s _ _ _ _).symm
   |exact a.2.1.1
   |exact⟨a.2.2.1.1,a.2.2.1.2.1⟩
   |exact⟨a.2.2.1.1,a.2.2.1.2.2.1⟩
   |exact⟨a.2.2.1.1,a.2.2.1.2.2.2⟩
   |exact⟨g.1,a.2.1.1⟩
   |exact⟨k.1,k.2,v.1⟩
   |exact⟨Im,A⟩
   |exact⟨⟨EY _,a.1.1⟩,a.1.2,a.2.1⟩
   |exact a.2.2.2.1 Hh
   |exact⟨Dj,LC Dk Dj⟩
   |(refine⟨⟨⟨⟨EY _,a.1.1⟩,RT.is_row AE _,RT.is_row CO _,RT.is_row AC _⟩,Im,λ_ _=>Im,λ_=>Im,λ_ _=>Im,λi hi=> ?_⟩,⟨z,w⟩,B⟩
     rw[b3v];exact Sh _)
   |(show u.toNat<b.ht.length;have:=a.2.2.1;omega)
   |(show (AF b.p.W b.p.H u e).toNat<b.ht.length;have:=a.2.2.2.1 Hh;omega)
   |skip)
  all_goals(intro j hj;by_cases f:j=Co (DN S (EO b u) (FD b u e)) (IR (EO b u) (FD b u e)))
  all_goals(first
   |(rw[Ii f,f5t f];exact Sh _)
   |(subst f;rw[Ih rfl,f3n])
   |skip)
  all_goals(first
   |(rw[d0v Dp]
     refine And.intro rfl (And.intro rfl (And.intro (λ_ _=>rfl) (And.intro rfl (And.intro (λ_ _=>rfl) (And.intro (by simp[]) (And.intro (d86 (R:=AC) rfl) trivial))))))
     done)
   |(rw[d96 Dp Dp];exact And.intro rfl (And.intro rfl (And.intro (λ_ _=>rfl) (And.intro rfl (And.intro (λ_ _=>rfl) (And.intro rfl (And.intro (λ_ _=>rfl) trivial)))))))
   |skip)
  .rw[d0v Dp];exact mem_en rfl rfl
  all_goals(try simp only[decide_true,Bool.and_true,show decide ((1:Int)=0)=false from rfl,Bool.and_false,Bool.false_eq_true]at*)
  all_goals(try contradiction)
  all_goals(first
   |(exfalso;exact Bool.noConfusion ((show decide (Al b.p u e=0)=true from Dp).symm.trans Dp))
   |(rw[d9m Dp Dp (Jw Dp)]
     first
      |(rw[Ih (cl_of Dp)];exact d9t rfl rfl)
      |(rw[Ii (f1m Dp)];exact d9t rfl rfl))
   |(first|rw[d4v Dp Dp Dp Dp]|rw[d0n Dp Dp Dp Dp]
     first
      |(rw[Ih (cl_of Dp)];exact f0p rfl rfl)
      |(rw[Ii (f1m Dp)];exact f0p rfl rfl))
   |skip)
section
open Go.Sort
theorem Xm{α:Type}[Inhabited α]{enc:α->List Value}{k:Nat}{w:World}{b o m:Nat}{a:Array α}{os:Array Obj}{i:Nat}(hi:i<w.heap.size)(c:i≠b):(sortWorldK enc k w b o m a os).heap[i]?=w.heap[i]?:=by unfold sortWorldK putRowK;rw[heap_grow_old _ _ Eg];show (w.heap.modify b _)[i]?=_;rw[Li,Ii (Ne.symm c)]
theorem b1e{α:Type}[Inhabited α]{enc:α->List Value}{k:Nat}{w:World}{b o m:Nat}{a:Array α}{os:Array Obj}{c:Array Value}{T:TypeId}{z:Nat×Nat}(h:w.heap[b]?=some (.cells c T z)):(sortWorldK enc k w b o m a os).heap[b]?=some (.cells (putCells id o (flatK enc k a) c) T z):=by have hi:b<w.heap.size:=(Jt.1 h).1;unfold sortWorldK putRowK;rw[heap_grow_old _ _ Eg];show (w.heap.modify b _)[b]?=_;rw[Li,Ih rfl,h];rfl
theorem b2h{α:Type}[Inhabited α]{enc:α->List Value}{k:Nat}{w:World}{b o m:Nat}{a:Array α}{os:Array Obj}:w.heap.size<=(sortWorldK enc k w b o m a os).heap.size:=by unfold sortWorldK putRowK;simp
theorem d1t{α:Type}[Inhabited α]{enc:α->List Value}{k:Nat}{w:World}{b o m:Nat}{a:Array α}{os:Array Obj}{X:Nat->Prop}(c:X b):Fr w.heap.size X w (sortWorldK enc k w b o m a os):=
 ⟨rfl,rfl,rfl,λ_=>Nat.le_add_right _ _,b2h,λ_ d f=>Xm d (λe=>f (e▸c))⟩
theorem b6d{X:Nat->Prop}{w w':World}(h:Fr w.heap.size X w w')(b:∀i,¬X i):∃q c,w'=grow (w.drewN q) c:=by
 refine⟨w'.drawn-w.drawn,w'.heap.extract w.heap.size w'.heap.size,?_⟩;have h1:=h.drawn trivial;have d:w'.heap=w.heap++w'.heap.extract w.heap.size w'.heap.size:=by
  apply Array.ext_getElem?;intro i;rw[Array.getElem?_append];split
  .rename_i a;exact h.block i a (b i)
  .rename_i a;have:=h.size;rw[Array.getElem?_extract];split
   .congr 1;omega
   .rw[Array.getElem?_eq_none];omega
 have e:=h.os;have f:=h.tape;have g:=h.output;cases w';cases w;simp only[grow,World.drewN,World.mk.injEq]at*;subst e f g;exact⟨d,rfl,Dj,rfl,rfl⟩
theorem b24{F c:Array Value}{o t:Nat}(h:t<F.size)(a:o+t<c.size):(putCells id o F c)[o+t]?=some F[t]!:=by simp only[putCells,Array.getElem?_mapIdx];rw[Lk a];simp only[Ju];rw[Ih ⟨Dj,Dj⟩,show o+t-o=t from Dj];rfl
theorem b0p{F c:Array Value}{o:Nat}:(putCells id o F c).size=c.size:=by simp[putCells]
theorem c1q{F c:Array Value}{o:Nat}{v:Value}(b:∀t,t<F.size->F[t]!.oneCell'=true)(d:∀v∈c,v.oneCell'=true)(h:v∈putCells id o F c):v.oneCell'=true:=by
 obtain⟨i,a,rfl⟩:=Array.mem_iff_getElem.1 h;have e:i<c.size:=by rw[b0p]at a;exact a
 simp only[putCells,Array.getElem_mapIdx];split
 .exact b _ Dj
 .exact d _ (Array.getElem_mem e)
theorem d7d{α:Type}[Inhabited α]{enc:α->List Value}{k:Nat}{d:Array α}(b:∀x,(enc x).length=k)(c:∀x,∀v∈enc x,v.oneCell'=true){t:Nat}(a:t<(flatK enc k d).size):(flatK enc k d)[t]!.oneCell'=true:=by
 rw[size_flatK]at a;rw[get_flatK _ _ _ _ a];have k0:0<k:=by
  rcases Jz k with h|h
  .subst h;simp at a
  .exact h
 have:t%k<(enc d[t/k]!).length:=by rw[b];exact Mr _ k0
 rw[Kt (enc d[t/k]!) (t%k) this];exact c _ _ (Ji this)
theorem b7y{α:Type}[Inhabited α]{enc:α->List Value}{k:Nat}{d:Array α}{i j:Nat}(hi:i<d.size)(hj:j<k):i*k+j<(flatK enc k d).size/\(flatK enc k d)[i*k+j]! =(enc d[i]!)[j]!:=by
 have lt:i*k+j<d.size*k:=by have:=Js k (show i+1<=d.size from hi);rw[L3,Nat.one_mul]at this;omega
 have a:(i*k+j)/k=i:=(blk_iff k i _ Dj).1 ⟨Dj,Dj⟩;have b:(i*k+j)%k=j:=by rw[Nat.mod_eq_sub_div_mul,a];omega
 exact⟨by simpa using lt,by rw[get_flatK _ _ _ _ lt,a,b]⟩
end
section
open Go.Sort Go.Proofs Go.Shelf
def AZ:List Int->List Int->Int
 | [],[]=>0
 | [],_::_=> -1
 |_::_,[]=>1
 |a::r,b::q=>if a=b then AZ r q else CJ a b
theorem IV:∀l m:List Int,AZ m l= -AZ l m
 | [],[]=>rfl
 | [],_::_=>rfl
 |_::_,[]=>rfl
 |a::r,b::q=>by
  simp only[AZ];by_cases h:a=b
  .rw[Ih h,Ih h.symm];exact IV r q
  .rw[Ii h,Ii (λe=>h e.symm)];unfold CJ;repeat' split<;>omega
theorem Of:∀l m:List Int,AZ l m=0->l=m
 | [],[],_=>rfl
 | [],_::_,h=>F4
 |_::_,[],h=>F4
 |a::r,b::q,h=>by
  simp only[AZ]at h;by_cases e:a=b
  .rw[Ih e]at h;rw[e,Of r q h]
  .rw[Ii e]at h;unfold CJ at h;split at h<;>(try split at h)<;>omega
theorem Tp(l:List Int):AZ l l=0:=by have:=IV l l;omega
theorem UF:∀l m n:List Int,AZ l m<0->AZ m n<0->AZ l n<0
 | [],[],n,h,_=>F4
 | [],_::_,[],_,h=>F4
 | [],_::_,_::_,_,_=>by simp[AZ]
 |_::_,[],n,h,_=>F4
 |_::_,_::_,[],_,h=>F4
 |a::r,b::q,c::s,e,d=>by
  simp only[AZ]at e d⊢;have k (x y:Int):CJ x y<0->x<y:=by unfold CJ;split<;>(try split)<;>omega
  have i (x y:Int) (h:x<y):CJ x y<0:=by unfold CJ;rw[if_pos h];omega
  by_cases g:a=b
  .subst g;rw[Ih rfl]at e;by_cases f:a=c
   .subst f;rw[Ih rfl]at d⊢;exact UF r q s e d
   .rw[Ii f]at d⊢;exact d
  .rw[Ii g]at e;have:=k _ _ e;by_cases f:b=c
   .subst f;rw[Ii g];exact e
   .rw[Ii f]at d;have:=k _ _ d;rw[Ii Dj];exact i _ _ Dj
theorem d2i{α:Type}(key:α->List Int):SWO (ltOf λx y:α=>AZ (key x) (key y))where
 irrefl x:=by simp[ltOf,Tp]
 trans x y z h1 h2:=by simp only[ltOf,Is]at*;exact UF _ _ _ h1 h2
 ntrans x y z h1 h2:=by
  simp only[ltOf,Kp]at*;intro a;have n1:=IV (key x) (key y);have n2:=IV (key y) (key z);by_cases b:AZ (key x) (key y)=0
  .rw[Of _ _ b]at a;exact h2 a
  .exact h2 (UF _ _ _ Dj a)
def Tn{β:Type}(key:β->List Int)(x:β):List β->List β
 | []=>[x]
 |y::r=>if AZ (key x) (key y)<=0 then x::y::r else y::Tn key x r
def GC{β:Type}(key:β->List Int)(l:List β):List β:=l.foldr (Tn key) []
theorem b5q{β:Type}(key:β->List Int)(x:β):∀l,(Tn key x l).Perm (x::l)
 | []=>.refl _
 |y::r=>by
  simp only[Tn];split
  .exact .refl _
  .exact((b5q key x r).cons y).trans (.swap x y r)
theorem TP{β:Type}(key:β->List Int):∀l,(GC key l).Perm l
 | []=>.refl _
 |x::l=>(b5q key x _).trans ((TP key l).cons x)
theorem QG{β:Type}(key:β->List Int)(l:List β):(GC key l).length=l.length:=(TP key l).length_eq
theorem Qp{β:Type}(key:β->List Int)(l:List β)(x:β):x∈GC key l↔x∈l:=(TP key l).mem_iff
theorem b7r{l m n:List Int}(h:AZ l m<=0)(k:AZ m n<=0):AZ l n<=0:=by
 by_cases a:AZ l m=0
 .rw[Of _ _ a];exact k
 .by_cases b:AZ m n=0
  .rw[<-Of _ _ b];exact h
  .exact Int.le_of_lt (UF l m n Dj Dj)
theorem b58{β:Type}(key:β->List Int)(x:β):∀l,l.Pairwise (λa b=>AZ (key a) (key b)<=0)->(Tn key x l).Pairwise (λa b=>AZ (key a) (key b)<=0)
 | [],_=>List.pairwise_singleton _ _
 |y::r,h=>by
  have d:=K0.1 h;simp only[Tn];split
  .rename_i e;exact K0.2 ⟨λz c=>by
    rcases Iv.1 c with rfl|c
    .exact e
    .exact b7r e (d.1 z c),h⟩
  .rename_i e;refine K0.2 ⟨λz c=> ?_,b58 key x r d.2⟩;rcases Iv.1 ((b5q key x r).mem_iff.1 c)with rfl|c
   .have:=IV (key z) (key y);omega
   .exact d.1 z c
theorem b0u{β:Type}(key:β->List Int):∀l,(GC key l).Pairwise (λa b=>AZ (key a) (key b)<=0)
 | []=>List.Pairwise.nil
 |x::l=>b58 key x _ (b0u key l)
theorem b5z{β:Type}(key:β->List Int)(l:List β)(g:∀x∈l,∀y∈l,key x=key y->x=y):(l.mergeSort λx y=>decide (AZ (key x) (key y)<=0))=GC key l:=by
 have d:=List.mergeSort_perm l (λx y=>decide (AZ (key x) (key y)<=0));refine List.Perm.eq_of_pairwise (le:=λa b=>AZ (key a) (key b)<=0) (λa b i j e f=> ?_) ?_ (b0u key l) (d.trans (TP key l).symm)
 .have:=IV (key a) (key b);exact g a (d.mem_iff.1 i) b ((Qp key l b).1 j) (Of _ _ Dj)
 .have:=List.pairwise_mergeSort (le:=λx y=>decide (AZ (key x) (key y)<=0)) (λa b c e f=>by simp only[Is]at*;exact b7r e f) (λa b=>by have:=IV (key a) (key b);simp only[Jn,Is];omega) l;exact this.imp λh=>Dr
theorem d33{β:Type}{key:β->List Int}{l:List β}(h:(l.map key).Nodup):∀x∈l,∀y∈l,key x=key y->x=y:=by
 have a:=Jr.1 (Kf.1 h);intro x hx y d e;obtain⟨i,b,rfl⟩:=Jg.1 hx;obtain⟨j,c,rfl⟩:=Jg.1 d;rcases Lt i j with h|h|h
 .exact absurd e (a i j b c h)
 .subst h;rfl
 .exact absurd e.symm (a j i c b h)
def svV:SV->Value
 |.int k n=>.int k n
 |_=>undef
section
variable{β:Type}{R:RT β}{w:World}{H:Nat->Prop}{μ:Mu}
theorem sv_D(b:∀x,∀s∈R.sv x,∃k n,s=.int k n){x:β}{i:Nat}{s:SV}{v:Value}(hs:(R.sv x)[i]?=some s)(a:((R.sv x).map svV)[i]?=some v):D w H μ s v:=by obtain⟨k,n,rfl⟩:=b x s (Ik hs);rw[Jb,hs]at a;cases a;exact .int
theorem sv_V(a:∀x,∀s∈R.sv x,∃k n,s=.int k n){x:β}{i:Nat}{s:SV}{v:Value}(hs:(R.sv x)[i]?=some s)(b:D w H μ s v):((R.sv x).map svV)[i]?=some v:=by obtain⟨k,n,rfl⟩:=a x s (Ik hs);cases b;rw[Jb,hs];rfl
end
def Fl{β:Type}(R:RT β)(P:β->Prop)(x:{x:β // P x}):List Value:=(R.sv x.1).map svV
theorem f89{β:Type}(R:RT β){ρ:Ren}{fs fc:FuncId}(L:SlLaysF0.n6 Tryz.prog ρ)(kx:ρ.f 6=fs)(hU:∃fn,Tryz.prog.funcs[fs]?=some fn/\(fn.name== "runtime.NumGoroutine")=false/\fn.body.isNone=false)
 (aE:∀w,(isAgg (ρ.t 24)).run Tryz.prog w=.ok true w) (zE:∀w,(Go.sizeOf (ρ.t 24)).run Tryz.prog w=.ok R.sz w) (hL:∀x,(R.sv x).length=R.sz) (hI:∀x,∀s∈R.sv x,∃k n,s=.int k n)
 (kc:AK) (pc:PS fc kc) (eg:∀args w,(callFunc fc args).run Tryz.prog w=.ok (.enter fc args) w) (e:JT)
 (he:∀T sz n g rest pre g' r,e T sz n g rest=some (pre,g',r)->sz=R.sz/\r=false/\∃caps key,rest=[.clo fc caps]/\(pre->R.is n g/\n<=100000/\
   (∀x∈R.lst n g,∀y∈R.lst n g,∃p:Prop,kc ([.agg (R.sv x),.agg (R.sv y)]++caps)=some (p,.int .i64 (AZ (key x) (key y)))/\p)/\(∀x∈R.lst n g,∀y∈R.lst n g,key x=key y->x=y)/\g'=R.row (GC key (R.lst n g)))):ES fs e:=by
 refine⟨hU,?_⟩;intro A w v T sz n g c rest vals pre g' r hA hv c6 hB hD rc hp;obtain⟨rfl,rfl,caps,key,rfl,da⟩:=he _ _ _ _ _ _ _ _ rc;obtain⟨tw,hn,qt,qu,rfl⟩:=da hp;obtain⟨fv,rfl⟩:∃fv,vals=[fv]:=by
  have:=hD.1;match vals,this with
  | [fv],_=>exact⟨fv,rfl⟩
 have hf:=hD.2 0 _ fv rfl rfl;cases hf with
 |clo cvs fh pg=>
 obtain⟨a,m,rfl,fj,gz,f9,hl,bb⟩:=hB;rcases Jz n with h0|h0
 .subst h0;have fg:=AnyF.slices_SortFunc_none {L with} a m (.func (.func fc) #[] cvs.toArray) w;rw[kx]at fg;refine fg.mono ?_;rintro e w' ⟨rfl,rfl⟩;refine⟨_,rfl,λh=>Dw,λ_=>rfl,⟨a,m,rfl,fj,gz,f9,λi hi=>absurd hi Dj,?_⟩,Fr.refl _ _ _⟩;rcases bb with h|⟨b,o,vs,c7,rfl,hh,ho,h1,hd⟩
  .exact .inl h
  .exact Cq
 .rcases bb with h|⟨b,o,vs,c7,rfl,hh,ho,h1,hd⟩
  .omega
  have hb:b<w.heap.size:=(Jt.1 hh).1;have bf:(R.lst n g).length=n:=RT.lst_length R n g;have dn:∀i,i<n->(R.lst n g)[i]?=some (R.of (g i)):=λi hi=>by simp[RT.lst,hi]
  haveI:Inhabited {x:β // x∈R.lst n g}:=⟨⟨R.of (g 0),Ik (dn 0 h0)⟩⟩
  let d:Array {x:β // x∈R.lst n g}:=(R.lst n g).attach.toArray
  have zy:d.size=n:=by simp only[d,List.size_toArray,List.length_attach];exact bf
  have W4:∀i,i<n->(d[i]!).1=R.of (g i):=λi hi=>by rw[Kt d i Dj];simp only[d,List.getElem_toArray,List.getElem_attach];simp[RT.lst]
  have bh:∀i j,i<n->j<R.sz->o+i*R.sz+j<vs.length:=λi j hi hj=>by have:=KV hi hj;have:n*R.sz<=m*R.sz:=Js _ fj;omega
  have hk:∀x,(Fl R (λx=>x∈R.lst n g) x).length=R.sz:=λx=>by simp[Fl,hL]
  have dv:∀i j,i<n->j<R.sz->vs[o+i*R.sz+j]?=some ((Fl R (λx=>x∈R.lst n g) d[i]!)[j]!):=by
   intro i j hi hj;have b6:=bh i j hi hj;have bm:j<(R.sv (R.of (g i))).length:=by rw[hL];exact hj
   have hs:(R.sv (R.of (g i)))[j]?=some (R.sv (R.of (g i)))[j]:=Ig bm;have Q3:=hd i j _ _ hi (by rw[tw i hi];exact hs) (Ig b6);have:=sv_V hI hs Q3;rw[Ig b6];unfold Fl;rw[W4 i hi,Kt _ j Fc];rw[Ig Fc]at this;exact this.symm
  have N9:∀x,∀v∈Fl R (λx=>x∈R.lst n g) x,v.oneCell'=true:=λx v hv=>by obtain⟨s,hs,rfl⟩:=J4.1 hv;obtain⟨k,q,rfl⟩:=hI _ s hs;rfl
  have hH:HoldsK (Fl R (λx=>x∈R.lst n g)) R.sz w b o d:=by
   intro t ht;have w7:t<n*R.sz:=by simpa[zy]using ht
   have hz:0<R.sz:=by
    rcases Jz R.sz with hz|hz
    .rw[hz]at w7;omega
    .exact hz
   have t1:t/R.sz<n:=Nat.div_lt_of_lt_mul (by rwa[Lp]);have t2:=Mr t hz;have q:=b7y (enc:=Fl R (λx=>x∈R.lst n g)) (k:=R.sz) (d:=d) (i:=t/R.sz) (j:=t%R.sz) Dj t2;have hc:=dv (t/R.sz) (t%R.sz) t1 t2;rw[Kq,Nat.div_add_mod']at hc;rw[Nat.div_add_mod']at q;rw[q.2];refine⟨?_,?_⟩
   .simp only[World.cell?,hh,Option.isSome_none,I4,List.getElem?_toArray];exact hc
   .simp[World.frozen?,hh]
  have tx:CmpLays Tryz.prog fc cvs.toArray (Fl R (λx=>x∈R.lst n g)) R.sz (λx y=>AZ (key x.1) (key y.1)) b o d.size w:=by
   intro q os dk hdk x y;have bp:w.heap.size<=(sortWorldK (Fl R (λx=>x∈R.lst n g)) R.sz w b o q dk os).heap.size:=b2h;have kp:Keeps w (sortWorldK (Fl R (λx=>x∈R.lst n g)) R.sz w b o q dk os) (held A (FR (.slice (some ⟨b,o,none⟩) n m))) (held A (FR (.slice (some ⟨b,o,none⟩) n m))) BM BM:=
    ⟨bp,λi hi ba=>Xm hi (λe=>ba (.inr ⟨0,_,rfl,e▸JC c7⟩)),λ_ _ h=>h,λ_ _ h=>h⟩
   obtain⟨p,zz,m7⟩:=qt x.1 x.2 y.1 y.2;have jn:DL (sortWorldK (Fl R (λx=>x∈R.lst n g)) R.sz w b o q dk os) (held A (FR (.slice (some ⟨b,o,none⟩) n m))) BM [.agg (R.sv x.1),.agg (R.sv y.1)] [.agg (Fl R (λx=>x∈R.lst n g) x).toArray,.agg (Fl R (λx=>x∈R.lst n g) y).toArray]:=
    ⟨rfl,λi s v hs hv=>by
      match i,hs,hv with
      |0,hs,hv=>
       simp at hs hv;subst hs hv;exact .agg _ (by simp[Fl]) (λj s v hs hv=>sv_D hI hs hv)
      |1,hs,hv=>
       simp at hs hv;subst hs hv;exact .agg _ (by simp[Fl]) (λj s v hs hv=>sv_D hI hs hv)⟩
   have W5:DL (sortWorldK (Fl R (λx=>x∈R.lst n g)) R.sz w b o q dk os) (held A (FR (.slice (some ⟨b,o,none⟩) n m))) BM caps cvs:=⟨fh,λi s v hs hv=>(pg i s v hs hv).keep kp⟩
   have:=pc.2 (held A (FR (.slice (some ⟨b,o,none⟩) n m))) (sortWorldK (Fl R (λx=>x∈R.lst n g)) R.sz w b o q dk os) _ _ p _
    (λi hi=>by
      rcases hi with hi|⟨j,z,hj,hz⟩
      .exact Jf (hA i hi) bp
      .unfold FR at hj;split at hj
       .cases hj;exact Jf (hv i hz).1 bp
       .cases hj)
    (λg t hg=>⟨(c6 g t hg).1,(c6 g t hg).2.keep kp⟩) (c45 jn W5) zz m7
   have e:(#[Value.agg (Fl R (λx=>x∈R.lst n g) x).toArray,Value.agg (Fl R (λx=>x∈R.lst n g) y).toArray]++cvs.toArray:Array Value)=([Value.agg (Fl R (λx=>x∈R.lst n g) x).toArray,Value.agg (Fl R (λx=>x∈R.lst n g) y).toArray]++cvs).toArray:=En;rw[e];refine this.mono ?_;rintro e w' ⟨v,rfl,wi,bk⟩;cases wi;exact⟨rfl,b6d bk (λ_ h=>h)⟩
  have fg:=AnyQ.slices_SortFunc_total L R.sz aE zE (Fl R (λx=>x∈R.lst n g)) hk N9 (λx y=>AZ (key x.1) (key y.1)) (d2i (λx:{x:β // x∈R.lst n g}=>key x.1)) fc cvs.toArray b o m d w eg tx hH hb Dj
   (λx y h1 h2=>Subtype.ext (qu _ x.2 _ y.2 (Of _ _ (by simp only[ltOf,Kp]at h1 h2;have:=IV (key x.1) (key y.1);omega))))
  rw[kx,zy]at fg;refine fg.mono ?_;rintro e w' ⟨rfl,q,os,rfl⟩;generalize hM:(d.toList.mergeSort λx y=> !(ltOf (λx y:{x:β // x∈R.lst n g}=>AZ (key x.1) (key y.1))) y x)=M;have qv:M.map (·.1)=GC key (R.lst n g):=by
   rw[<-hM,<-b5z key _ qu];rw[List.map_mergeSort (s:=λx y=>decide (AZ (key x) (key y)<=0))]
   .simp[d]
   .intro x _ y _;have:=IV (key x.1) (key y.1);simp only[ltOf,<-decide_not,decide_eq_decide];omega
  have gu:M.length=n:=by have:=Lz List.length qv;rw[Jp,QG,bf]at this;exact this
  have W6:∀i,i<n->(M.toArray[i]!).1=(GC key (R.lst n g)).getD i R.d:=λi hi=>by rw[<-qv,Kt M.toArray i Ff];simp[gu,hi]
  refine⟨_,rfl,λh=>Dw,λ_=>rfl,⟨_,m,rfl,fj,gz,f9,λi hi=>⟨hL _,?_⟩,.inr ⟨b,o,(putCells id o (flatK (Fl R (λx=>x∈R.lst n g)) R.sz M.toArray) vs.toArray).toList,c7,rfl,?_,?_,?_,?_⟩⟩,d1t (JC c7)⟩
  .rw[Iq];intro s hs;obtain⟨k,q,rfl⟩:=hI _ s hs;rfl
  .rw[b1e hh]
  .rw[Kk,b0p];simpa using ho
  .intro v hv;exact Dc
  .intro i j s v hi hs hv;have hj:j<R.sz:=Gv;have q:=b7y (enc:=Fl R (λx=>x∈R.lst n g)) (k:=R.sz) (d:=M.toArray) (i:=i) (j:=j) Ff hj;rw[Kd,Kq,b24 q.1 (by simp;have:=bh i j hi hj;omega),q.2]at hv;cases hv;have hs':(R.sv (M.toArray[i]!).1)[j]?=some s:=by rw[W6 i hi];exact hs
   refine sv_D hI hs' ?_;have bm:j<((R.sv (M.toArray[i]!).1).map svV).length:=by rw[Jp,hL];exact hj
   unfold Fl;rw[Kt _ j bm];exact Ig bm
end
def US:SV->Option (Prop×List Int)
 |.rel 1 1 f 0 0=>match f 0 with
  | [.rel 8 1 g 0 0]=>match g 0 with
    | [_,_,_,_,_,.sl 1 n h _,_,_]=>some ((∀j,g j=g 0)/\h=AC.row (AC.lst n h),AC.lst n h)
    |_=>none
  |_=>none
 |_=>none
abbrev C8:=SV×SV×SV×SV×SV×SV×SV×Option Nat
def capS:List Int->C8->SV
 |l,(a,b,c,d,e,f,g,h)=>.rel 1 1 (λ_=>[.rel 8 1 (λ_=>[a,b,c,d,e,.sl 1 l.length (AC.row l) h,f,g]) 0 0]) 0 0
theorem d16{s:SV}{q:Prop}{l:List Int}(h:US s=some (q,l))(k:q):∃z,s.le2 (capS l z):=by
 unfold US at h;split at h
 .split at h
  .split at h
   .rename_i f _ g m _ a b c d e n o i x y r;cases h;obtain⟨t,u⟩:=k;refine⟨(a,b,c,d,e,x,y,i),?_⟩;simp only[capS,SV.le2,SV.le1,SV.le0,Mn,RT.lst_length];intro j hj;rw[show j=0 from Dj,m];have v:g=λ_=>[a,b,c,d,e,.sl 1 n o i,x,y]:=Md λj=>by rw[t j,r]
    rw[v,<-u]
   .cases h
  .cases h
 .cases h
def Uy:AK
 | [.agg [.int .i64 a,.int .i64 _],.agg [.int .i64 c,.int .i64 _],s]=>(US s).map λq=>(q.1/\(0<=a/\a<q.2.length)/\0<=c/\c<q.2.length,.int .i64 (CJ (q.2.getD a.toNat 0) (q.2.getD c.toNat 0)))
 |_=>none
def FSrt1:Fam:=⟨(Int×Int×Int×Int)×List Int×C8,λ((a,b,c,d),l,z)=>[.agg [.int .i64 a,.int .i64 b],.agg [.int .i64 c,.int .i64 d],capS l z],λ((a,_,c,_),l,_)=>(0<=a/\a<l.length)/\0<=c/\c<l.length,λ((a,_,c,_),l,_)=>.int .i64 (CJ (l.getD a.toNat 0) (l.getD c.toNat 0))⟩
theorem pSrt1:PS 163 Uy:=by
 refine con [(123,SL)] (by simpa using pCmp) FSrt1 (λ_ _=>none) Uy ?_ ?_ Tryz.func163 Dk Dk Dk ?_
 .intro args pre s h e;unfold Uy at h;split at h
  .rename_i a b c d x;simp only[In]at h;obtain⟨⟨q,l⟩,hx,f⟩:=h;cases f;obtain⟨z,g⟩:=d16 hx e.1;exact⟨((a,b,c,d),l,z),⟨Dz,Dz,g,Im⟩,e.2,rfl⟩
  .cases h
 .exact Bv
 .rintro⟨⟨a,b,c,d⟩,l,x1,x2,x3,x4,x5,x6,x7,cp⟩ e;replace e:(0<=a/\a<l.length)/\0<=c/\c<l.length:=e;refine X0 _ ?_;(repeat' first|constructor|intro h)<;>refine Lm ?_
  all_goals(first|exact e.1|exact e.2|rfl|skip)
section
open Go.Sort Go.Proofs Go.Shelf
def Nf(l:List Int)(x:Pa):List Int:=[l.getD x.a.toNat 0]
def b87:JT:=λ_ d n g b=>match b with
 | [.clo f [c]]=>if f=163/\d=2 then(US c).map λq=>(q.1/\BV.is n g/\n<=100000/\(∀x∈BV.lst n g,0<=x.a/\x.a<q.2.length)/\(∀x∈BV.lst n g,∀y∈BV.lst n g,Nf q.2 x=Nf q.2 y->x=y),BV.row (GC (Nf q.2) (BV.lst n g)),false)else none
 |_=>none
theorem f49:ES 162 b87:=by
 refine f89 BV Tryz.sortPass rfl ⟨_,Tryz.func162,Dk,Dk⟩ (λw=>Tryz.isAgg253 w) (λw=>Tryz.sizeOf253 w) (λ_=>rfl) (λx s hs=> ?_) Uy pSrt1 (enters_of Tryz.func163 Dk rfl) b87 ?_
 .simp[BV]at hs;rcases hs with rfl|rfl
  .exact C3
  .exact C3
 .intro T sz n g rest pre g' r h;unfold b87 at h;split at h;rotate_left
  .cases h
  rename_i f c;split at h;rotate_left
  .cases h
  rename_i i;obtain⟨rfl,rfl⟩:=i;simp only[In]at h;obtain⟨⟨q,l⟩,hx,j⟩:=h;cases j;refine⟨rfl,rfl,[c],Nf l,rfl,λd=>⟨d.2.1,d.2.2.1,λx k y m=> ?_,d.2.2.2.2,rfl⟩⟩;refine⟨q/\(0<=x.a/\x.a<l.length)/\0<=y.a/\y.a<l.length,?_,d.1,d.2.2.2.1 x k,d.2.2.2.1 y m⟩;show Uy [.agg [.int .i64 x.a,.int .i64 x.b],.agg [.int .i64 y.a,.int .i64 y.b],c]=_;simp only[Uy,hx,Ju,Hy,Mn,SV.int.injEq];simp only[Nf,AZ];split
  .rename_i e;rw[e];simp[CJ]
  .rfl
end
def KL:List Int->Int
 | []=>0
 |a::r=>if a=0 then KL r else a
theorem d32:∀{l:List Int} {i:Nat},(∀j,j<i->l.getD j 0=0)->i<l.length->l.getD i 0≠0->KL l=l.getD i 0
 | [],_,_,h,_=>Dv
 |a::r,0,_,_,hv=>by simp only[KL];rw[Ii Fk];rfl
 |a::r,i+1,h,hi,hv=>by
  have b:a=0:=by simpa using h 0 Dj
  simp only[KL];rw[Ih b];have:=d32 (l:=r) (i:=i) (λj hj=>by simpa using h (j+1) Dj) Eg Fk;simpa using this
theorem c4z:∀{l:List Int},(∀j,j<l.length->l.getD j 0=0)->KL l=0
 | [],_=>rfl
 |a::r,h=>by
  have b:a=0:=by simpa using h 0 Dm
  simp only[KL];rw[Ih b];exact c4z (λj hj=>by simpa using h (j+1) E8)
def Wc:AK
 | [x]=>match AC.as x with
   |some (n,f)=>some (AC.is n f/\n<=100000,.int .i64 (KL (AC.lst n f)))
   |none=>none
 |_=>none
def FOrL:Fam:=⟨List Int,λl=>[.sl 1 l.length (AC.row l) none],λl=>l.length<=100000,λl=>.int .i64 (KL l)⟩
def IOrL(l:List Int):Nat->Option Inv
 |3=>some {β:=Nat,ok:=λi=>i<=l.length/\∀j,j<i->l.getD j 0=0,st:=λi=>⟨[⟨8,none,.int .i64 i⟩,⟨7,none,.int .i64 l.length⟩,⟨6,none,.sl 1 l.length (AC.row l) none⟩,⟨3,none,.int .i64 0⟩],[]⟩,μ:=λi=>l.length-i}
 |_=>none
theorem pOrL:PS 117 Wc:=by
 refine con [] Dm FOrL IOrL Wc ?_ ?_ Tryz.func117 Dk Dk Dk ?_
 .intro args pre s h a;unfold Wc at h;split at h
  .split at h
   .rename_i n f hx;cases h;exact⟨AC.lst n f,⟨IX (AC.as_le hx a.1),Im⟩,by simp only[FOrL,RT.lst_length];exact a.2,rfl⟩
   .cases h
  .cases h
 .exact Bu
 .rintro l a;replace a:l.length<=100000:=a;refine X0 _ ?_;(repeat' first|constructor|intro h)<;>refine Lm ?_
  refine⟨(0:Nat),⟨Ix _,λj d=>Dj⟩,?_,?_⟩
  .exact X0c
  .intro i g;obtain⟨dq,c⟩:=g;refine X0 _ ?_;(repeat' first|constructor|intro h)<;>refine Lm ?_
   all_goals(try simp only[Hv,Hw]at*)
   all_goals(first
    |exact Ap
    |(exact(d32 c Dj Dp).symm)
    |(refine⟨i+1,⟨Dj,λj d=> ?_⟩,Dy,?_⟩)
    |(exact(c4z (λj d=>c j Dj)).symm)
    |skip)
   .by_cases e:j=i
    .subst e;exact h
    .exact c j Dj
   .exact X0d
section
open Go.Sort Go.Proofs Go.Shelf
def UL:AK
 | [.agg [.int .u8 p,.int .i64 a,.int .i64 _],.agg [.int .u8 q,.int .i64 c,.int .i64 _],s]=>(US s).map λz=>(z.1/\(0<=a/\a<z.2.length)/\0<=c/\c<z.2.length,.int .i64 (KL [CJ p q,CJ (z.2.getD a.toNat 0) (z.2.getD c.toNat 0)]))
 |_=>none
def FSrt2:Fam:=⟨(Int×Int×Int×Int×Int×Int)×List Int×C8,λ((p,a,b,q,c,d),l,z)=>[.agg [.int .u8 p,.int .i64 a,.int .i64 b],.agg [.int .u8 q,.int .i64 c,.int .i64 d],capS l z],λ((_,a,_,_,c,_),l,_)=>(0<=a/\a<l.length)/\0<=c/\c<l.length,λ((p,a,_,q,c,_),l,_)=>.int .i64 (KL [CJ p q,CJ (l.getD a.toNat 0) (l.getD c.toNat 0)])⟩
theorem pSrt2:PS 165 UL:=by
 refine con [(123,SL),(166,d72),(117,Wc)] (by simpa using⟨pCmp,pCmp8,pOrL⟩) FSrt2 (λ_ _=>none) UL ?_ ?_ Tryz.func165 Dk Dk Dk ?_
 .intro args pre s h e;unfold UL at h;split at h
  .rename_i p a b q c d x;simp only[In]at h;obtain⟨⟨w,l⟩,hx,f⟩:=h;cases f;obtain⟨z,g⟩:=d16 hx e.1;exact⟨((p,a,b,q,c,d),l,z),⟨Dz,Dz,g,Im⟩,e.2,rfl⟩
  .cases h
 .exact Bv
 .rintro⟨⟨p,a,b,q,c,d⟩,l,x1,x2,x3,x4,x5,x6,x7,cp⟩ e;replace e:(0<=a/\a<l.length)/\0<=c/\c<l.length:=e;refine X0 _ ?_;(repeat' first|constructor|intro h)<;>refine Lm ?_
  all_goals(first
   |exact e.1
   |exact e.2
   |rfl
   |exact⟨λi j=>match i,j with
    |0,_=>rfl
    |1,_=>rfl,Dj⟩
   |skip)
def OM(l:List Int)(x:Lo):List Int:=[x.s,l.getD x.a.toNat 0]
theorem lo_cmp(p q a b:Int):KL [CJ p q,CJ a b]=AZ [p,a] [q,b]:=by
 simp only[KL,AZ];by_cases e:p=q
 .subst e;rw[Ih rfl,show CJ p p=0 by simp[CJ],Ih rfl];by_cases c:a=b
  .subst c;simp[CJ]
  .rw[Ii c];split<;>simp_all
 .rw[Ii e,Ii];unfold CJ;split<;>(try split)<;>omega
def b8x:JT:=λ_ d n g b=>match b with
 | [.clo f [c]]=>if f=165/\d=3 then(US c).map λq=>(q.1/\BR.is n g/\n<=100000/\(∀x∈BR.lst n g,0<=x.a/\x.a<q.2.length)/\(∀x∈BR.lst n g,∀y∈BR.lst n g,OM q.2 x=OM q.2 y->x=y),BR.row (GC (OM q.2) (BR.lst n g)),false)else none
 |_=>none
theorem f7g:ES 164 b8x:=by
 refine f89 BR Tryz.sortLoop rfl ⟨_,Tryz.func164,Dk,Dk⟩ (λw=>Tryz.isAgg164 w) (λw=>Tryz.sizeOf164 w) (λ_=>rfl) (λx s hs=> ?_) UL pSrt2 (enters_of Tryz.func165 Dk rfl) b8x ?_
 .simp[BR]at hs;rcases hs with rfl|rfl|rfl
  .exact C3
  .exact C3
  .exact C3
 .intro T sz n g rest pre g' r h;unfold b8x at h;split at h;rotate_left
  .cases h
  rename_i f c;split at h;rotate_left
  .cases h
  rename_i e;obtain⟨rfl,rfl⟩:=e;simp only[In]at h;obtain⟨⟨q,l⟩,hx,i⟩:=h;cases i;refine⟨rfl,rfl,[c],OM l,rfl,λd=>⟨d.2.1,d.2.2.1,λx j y k=> ?_,d.2.2.2.2,rfl⟩⟩;refine⟨q/\(0<=x.a/\x.a<l.length)/\0<=y.a/\y.a<l.length,?_,d.1,d.2.2.2.1 x j,d.2.2.2.1 y k⟩;show UL [.agg [.int .u8 x.s,.int .i64 x.a,.int .i64 x.b],.agg [.int .u8 y.s,.int .i64 y.a,.int .i64 y.b],c]=_;simp only[UL,hx,Ju,OM,lo_cmp]
end
section
open Go.Sort Go.Proofs Go.Shelf
section
variable{α:Type} [Inhabited α] {enc:α->Value}{w:World}{b o m:Nat}{d:Array α}{os:Array Obj}
theorem d6m{i:Nat}(hi:i<w.heap.size)(a:i≠b):(grow (Go.Sort.putRow enc (Sort.ahead w m) b o d) os).heap[i]?=w.heap[i]?:=by rw[heap_grow_old _ _ Hi];show (w.heap.modify b _)[i]?=_;rw[Li,Ii (Ne.symm a)]
theorem d2s{c:Array Value}{T:TypeId}{z:Nat×Nat}(h:w.heap[b]?=some (.cells c T z)):(grow (Go.Sort.putRow enc (Sort.ahead w m) b o d) os).heap[b]?=some (.cells (putCells enc o d c) T z):=by have hi:b<w.heap.size:=(Jt.1 h).1;rw[heap_grow_old _ _ Hi];show (w.heap.modify b _)[b]?=_;rw[Li,Ih rfl,h];rfl
theorem f47:w.heap.size<=(grow (Go.Sort.putRow enc (Sort.ahead w m) b o d) os).heap.size:=by simp[grow,Go.Sort.putRow,mapBlock,Sort.ahead]
theorem fr_pr{X:Nat->Prop}(a:X b):Fr w.heap.size X w (grow (Go.Sort.putRow enc (Sort.ahead w m) b o d) os):=
 ⟨rfl,rfl,rfl,λ_=>Nat.le_add_right _ _,f47,λ_ c f=>d6m c (λe=>f (e▸a))⟩
end
def TS(x:Int):List Int->List Int
 | []=>[x]
 |y::r=>if x<=y then x::y::r else y::TS x r
def MP(l:List Int):List Int:=l.foldr TS []
theorem b4d(x:Int):∀l,(TS x l).Perm (x::l)
 | []=>.refl _
 |y::r=>by
  simp only[TS];split
  .exact .refl _
  .exact((b4d x r).cons y).trans (.swap x y r)
theorem b19:∀l,(MP l).Perm l
 | []=>.refl _
 |x::l=>(b4d x _).trans ((b19 l).cons x)
theorem b09(l:List Int):(MP l).length=l.length:=(b19 l).length_eq
theorem d43(l:List Int)(x:Int):x∈MP l↔x∈l:=(b19 l).mem_iff
theorem b4j(x:Int):∀l,l.Pairwise (λa b=>a<=b)->(TS x l).Pairwise (λa b=>a<=b)
 | [],_=>List.pairwise_singleton _ _
 |y::r,h=>by
  have d:=K0.1 h;simp only[TS];split
  .rename_i e;exact K0.2 ⟨λz c=>by
    rcases Iv.1 c with rfl|c
    .exact e
    .exact Int.le_trans e (d.1 z c),h⟩
  .rename_i e;refine K0.2 ⟨λz c=> ?_,b4j x r d.2⟩;rcases Iv.1 ((b4d x r).mem_iff.1 c)with rfl|c
   .omega
   .exact d.1 z c
theorem b3b:∀l,(MP l).Pairwise (λa b=>a<=b)
 | []=>List.Pairwise.nil
 |x::l=>b4j x _ (b3b l)
theorem c25(l:List Int):(l.mergeSort λx y=>decide (x<=y))=MP l:=by have f:=List.mergeSort_perm l (λx y=>decide (x<=y));refine List.Perm.eq_of_pairwise (le:=λa b=>a<=b) (λa b _ _ d e=>Int.le_antisymm d e) ?_ (b3b l) (f.trans (b19 l).symm);have:=List.pairwise_mergeSort (le:=λx y:Int=>decide (x<=y)) (λa b c d e=>by simp only[Is]at*;omega) (λa b=>by simp only[Jn,Is];omega) l;exact this.imp λh=>Dr
def d4c:JT:=λ_ b n g a=>match a with
 | []=>if b=1 then some (AC.is n g/\n<=100000,AC.row (MP (AC.lst n g)),false)else none
 |_=>none
theorem xSortI:ES 167 d4c:=by
 refine⟨⟨_,Tryz.func167,Dk,Dk⟩,?_⟩;intro A w v T sz n g c rest d pre g' r hA f c6 K L k M;unfold d4c at k;split at k;rotate_left
 .cases k
 split at k;rotate_left
 .cases k
 rename_i N;subst N;cases k;obtain⟨O,hn⟩:=M;obtain rfl:d=[]:=by
  have:=L.1;match d,this with
  | [],_=>rfl
 obtain⟨a,m,rfl,y,B,C,hl,E⟩:=K;rcases Jz n with F|F
 .subst F;have l:=AnyM.slices_Sort_int_none Tryz.sortInts a m w;refine l.mono ?_;rintro e P ⟨rfl,rfl⟩;refine⟨_,rfl,λh=>Dw,λ_=>rfl,⟨a,m,rfl,y,B,C,λi hi=>absurd hi Dj,?_⟩,Fr.refl _ _ _⟩;rcases E with h|⟨b,o,vs,c7,rfl,hh,ho,h1,G⟩
  .exact .inl h
  .exact Cq
 .rcases E with h|⟨b,o,vs,c7,rfl,hh,ho,h1,G⟩
  .omega
  have Q:b<w.heap.size:=(Jt.1 hh).1;have u:(AC.lst n g).length=n:=RT.lst_length AC n g;have H:∀i,i<n->o+i<vs.length:=λi hi=>Dj;have R:∀i,i<n->vs[o+i]?=some (.int .i64 ((AC.lst n g).getD i 0)):=by intro i hi;have x:=H i hi;have I:=G i 0 (.int .i64 ((AC.lst n g).getD i 0)) (vs[o+i]) hi (by rw[O i hi];simp[RT.lst,hi];rfl) (by simp[Ig x]);rw[Ig x];generalize vs[o+i]=z at I⊢;cases I;rfl
  have S:Holds (Value.int .i64) w b o (AC.lst n g).toArray:=by
   intro t U;have J:t<n:=by simpa[u]using U
   refine⟨?_,?_⟩
   .simp only[World.cell?,hh,Option.isSome_none,I4,List.getElem?_toArray];rw[R t J];simp[u,J]
   .simp[World.frozen?,hh]
  have l:=AnyM.slices_Sort_int Tryz.sortInts b o m (AC.lst n g) w S Q Dj;rw[u,c25]at l;refine l.mono ?_;rintro e P ⟨rfl,q,os,rfl⟩;have gu:(MP (AC.lst n g)).length=n:=by rw[b09,u]
  refine⟨_,rfl,λh=>Dw,λ_=>rfl,⟨_,m,rfl,y,B,C,λi hi=>⟨rfl,rfl⟩,.inr ⟨b,o,(putCells (Value.int .i64) o (MP (AC.lst n g)).toArray vs.toArray).toList,c7,rfl,?_,?_,?_,?_⟩⟩,fr_pr (JC c7)⟩
  .first
   |(rw[d2s hh];done)
   |(rw[d2s hh];rfl)
  .simp[putCells];omega
  .intro v f;simp only[putCells,Array.toList_mapIdx,List.mem_mapIdx]at f;obtain⟨i,hi,rfl⟩:=f;split
   .rfl
   .exact h1 _ Dm
  .intro i j s v hi hs f;have V:j=0:=by
    have:=(Ij.1 hs).1;have:(AC.row (MP (AC.lst n g)) i).length=1:=rfl;omega
   subst V;have x:=H i hi;simp only[putCells,Array.toList_mapIdx,List.getElem?_mapIdx,Nat.mul_one,L7,Ig x,Ju,J8]at f;rw[Ih ⟨Dj,by simp[gu];omega⟩]at f;subst f;have e:s=.int .i64 ((MP (AC.lst n g)).getD i 0):=by have:(AC.row (MP (AC.lst n g)) i)[0]?=some (.int .i64 ((MP (AC.lst n g)).getD i 0)):=rfl;rw[this]at hs;exact(Jj hs).symm
   subst e;rw[show o+i-o=i from Dj,Kt _ i Ff];simp[gu,hi];exact .int
end
def b0k:AK
 | [.sl 2 n f _]=>some (n<=100000/\∀i,i<n->(f i).all SV.flat0=true,.sl 2 n f none)
 | [.con (.slice none 0 0)]=>some (True,.sl 2 0 (λ_=>[]) none)
 |_=>none
def c2b:Fam:=⟨Nat×(Nat->List SV),λ(n,f)=>[.sl 2 n f none],λ(n,f)=>n<=100000/\∀i,i<n->(f i).all SV.flat0=true,λ(n,f)=>.sl 2 n f none⟩
theorem c3m:PF 169 b0k:=by
 refine conF {} ⟨Dm,Dm,Dm⟩ c2b (λ_ _=>none) b0k ?_ ?_ Tryz.func169 Dk Dk Dk ?_
 .intro args pre s h hp;unfold b0k at h;split at h
  .rename_i n f c;cases h;exact Bx
  .cases h;exact Ct
  .cases h
 .exact Bu
 .rintro⟨n,f⟩ ⟨hp,du⟩;refine X0 _ ?_;(repeat' first|constructor|intro h)<;>refine Lm ?_
  all_goals(first
   |exact As
   |(intro i hi;simp;done)
   |skip)
def b0i:AK
 | [.sl 3 n f _]=>some (n<=100000/\∀i,i<n->(f i).all SV.flat0=true,.sl 3 n f none)
 | [.con (.slice none 0 0)]=>some (True,.sl 3 0 (λ_=>[]) none)
 |_=>none
def c2d:Fam:=⟨Nat×(Nat->List SV),λ(n,f)=>[.sl 3 n f none],λ(n,f)=>n<=100000/\∀i,i<n->(f i).all SV.flat0=true,λ(n,f)=>.sl 3 n f none⟩
theorem c1x:PF 171 b0i:=by
 refine conF {} ⟨Dm,Dm,Dm⟩ c2d (λ_ _=>none) b0i ?_ ?_ Tryz.func171 Dk Dk Dk ?_
 .intro args pre s h hp;unfold b0i at h;split at h
  .rename_i n f c;cases h;exact Bx
  .cases h;exact Ct
  .cases h
 .exact Bu
 .rintro⟨n,f⟩ ⟨hp,du⟩;refine X0 _ ?_;(repeat' first|constructor|intro h)<;>refine Lm ?_
  all_goals(first
   |exact As
   |(intro i hi;simp;done)
   |skip)
def b11:AK
 | [.sl 1 n f _]=>some (n<=100000/\∀i,i<n->(f i).all SV.flat0=true,.sl 1 n f none)
 | [.con (.slice none 0 0)]=>some (True,.sl 1 0 (λ_=>[]) none)
 |_=>none
def c8s:Fam:=⟨Nat×(Nat->List SV),λ(n,f)=>[.sl 1 n f none],λ(n,f)=>n<=100000/\∀i,i<n->(f i).all SV.flat0=true,λ(n,f)=>.sl 1 n f none⟩
theorem c8g:PF 108 b11:=by
 refine conF {} ⟨Dm,Dm,Dm⟩ c8s (λ_ _=>none) b11 ?_ ?_ Tryz.func108 Dk Dk Dk ?_
 .intro args pre s h hp;unfold b11 at h;split at h
  .rename_i n f c;cases h;exact Bx
  .cases h;exact Ct
  .cases h
 .exact Bu
 .rintro⟨n,f⟩ ⟨hp,du⟩;refine X0 _ ?_;(repeat' first|constructor|intro h)<;>refine Lm ?_
  all_goals(first
   |exact As
   |(intro i hi;simp;done)
   |skip)
structure Ky where
 a:Cl
 b:Cl
 deriving DecidableEq
def GD:RT Ky:=⟨6,λk=>[.int .i64 k.a.x,.int .i64 k.a.y,.int .u8 k.a.q,.int .i64 k.b.x,.int .i64 k.b.y,.int .u8 k.b.q],λl=>match l with
 | [.int _ a,.int _ b,.int _ c,.int _ d,.int _ e,.int _ f]=>⟨⟨a,b,c⟩,⟨d,e,f⟩⟩
 |_=>⟨⟨0,0,0⟩,⟨0,0,0⟩⟩,⟨⟨0,0,0⟩,⟨0,0,0⟩⟩,λ_=>rfl⟩
def KG(s:Sm):Ky:=⟨s.a,s.b⟩
theorem d49(S:List Sm)(i:Nat):JB S i=GD.row (S.map KG) i:=by
 have:(S.map KG).getD i GD.d=KG (S.getD i BA):=by simp only[If,Jb];cases S[i]?<;>rfl
 unfold JB RT.row;rw[this];rfl
def c6c(b:Bd)(S:List Sm)(K:List Ky):List Blk:=[.cells 201 [.int .i64 b.p.W,.int .i64 b.p.H,.sl 3 b.p.l.length (DS b.p.l) none,.sl 3 b.pl.length (AE.row b.pl) none,.sl 3 b.im.length (CO.row b.im) none,.osl 2,.omp 3,.osl 4],
 .fam 161 [(253,2),(164,3),(3,1)] S.length none (λi=>Il (S.getD i BA)),
 .row 3 1 b.ht.length (AC.row b.ht) none,.pmap (.ints [.i64,.i64,.u8,.i64,.i64,.u8]) 1 (DC S) (Co S),.row 205 6 K.length (GD.row K) none]
def f4e:List Blk->Option (Prop×Bd×List Sm×List Ky)
 | [.cells l [.int .i64 W,.int .i64 H,m,pl,o,.osl k1,.omp k2,.osl k3],.fam p r b s F,.row t u c d _,.pmap K k4 a BH,.row v w e g _]=>
   match Nr m,AE.as pl,CO.as o with
   |some (n,f),some (h,f2),some (j,k)=>if(l=201/\k1=2/\k2=3/\k3=4/\t=3/\u=1)/\(K=.ints [.i64,.i64,.u8,.i64,.i64,.u8]/\k4=1/\v=205/\w=6)/\p=161/\r=[(253,2),(164,3),(3,1)]/\s=none then
    some (((ML n f/\n<=100000)/\AE.is h f2/\CO.is j k/\AC.is c d)/\GD.is e g/\(∀q,a q=DC (JY b F) q)/\(∀q,a q=true->BH q=Co (JY b F) q)/\∀i,i<b->(F i).le (Il (Ro (F i))),
    ⟨⟨W,H,ED n f⟩,AE.lst h f2,CO.lst j k,AC.lst c d⟩,JY b F,GD.lst e g)
    else none
   |_,_,_=>none
 |_=>none
theorem d6f{own:List Blk}{q:Prop}{b:Bd}{S:List Sm}{K:List Ky}(h:f4e own=some (q,b,S,K))(d:q):own.length=5/\Qv 5 own (c6c b S K)/\b.p.l.length<=100000:=by
 unfold f4e at h;split at h;rotate_left
 .cases h
 rename_i T1 W H cr pl im k1 k2 k3 T4 Ts a bt F T2 z2 e g c1 KK k4 has BH T3 z3 j k c2;split at h;rotate_left
 .cases h
 rename_i n f n2 f2 n3 f3 h1 h2 h3;split at h;rotate_left
 .cases h
 rename_i m;obtain⟨⟨rfl,rfl,rfl,rfl,rfl,rfl⟩,⟨rfl,rfl,rfl,rfl⟩,rfl,rfl,rfl⟩:=m;simp only[Hy]at h;obtain⟨rfl,rfl,rfl,rfl⟩:=h;obtain⟨⟨q1,q2,q3,o⟩,r,s,t,u⟩:=d;refine⟨rfl,⟨⟨?_,?_⟩,⟨?_,?_,rfl,?_⟩,⟨?_,?_,?_,?_⟩,⟨?_,s,t⟩,⟨?_,?_,?_,?_⟩,Im⟩,Gs⟩
 .exact C4
 .exact D9
 .rw[Ih ⟨rfl,rfl,rfl⟩];trivial
 .exact(b30 a F).symm
 .intro i c;have:(JY a F).getD i BA=Ro (F i):=by simp[JY,c]
  show (F i).le (Il ((JY a F).getD i BA));rw[this];exact u i c
 .exact C4
 .exact(RT.lst_length AC e g).symm
 .exact Im
 .exact QC (AC.row_lst o)
 .rw[Ih ⟨rfl,rfl,Dn⟩];trivial
 .exact C4
 .exact(RT.lst_length GD j k).symm
 .exact Im
 .exact QC (GD.row_lst r)
def KJ(b:Bd)(s:Sm):Sm:={s with ps:=GC (Nf b.ht) s.ps,ls:=GC (OM b.ht) s.ls,en:=MP s.en}
def smSV(s:Sm):SV:=.agg [.int .i64 s.a.x,.int .i64 s.a.y,.int .u8 s.a.q,.int .i64 s.b.x,.int .i64 s.b.y,.int .u8 s.b.q,.sl 2 s.ps.length (BV.row s.ps) (some s.ps.length),.sl 3 s.ls.length (BR.row s.ls) (some s.ls.length),.sl 1 s.en.length (AC.row s.en) (some s.en.length)]
def c79(b:Bd)(s:Sm):Prop:=(s.ps.length<=100000/\s.ls.length<=100000/\s.en.length<=100000)/\((∀x∈s.ps,0<=x.a/\x.a<b.ht.length)/\∀x∈s.ls,0<=x.a/\x.a<b.ht.length)/\(∀x∈s.ps,∀y∈s.ps,Nf b.ht x=Nf b.ht y->x=y)/\∀x∈s.ls,∀y∈s.ls,OM b.ht x=OM b.ht y->x=y
theorem c73(b:Bd)(s:Sm):CD (KJ b s)=CD s:=rfl
theorem b31(b:Bd)(S:List Sm)(i:Nat):(S.set i (KJ b (S.getD i BA))).map CD=S.map CD:=b1t _ _ _ (c73 b _)
theorem c7k(b:Bd)(S:List Sm)(i:Nat):∀q,DC S q=DC (S.set i (KJ b (S.getD i BA))) q:=λq=>by rw[SG,SG,b31]
theorem c7u(b:Bd)(S:List Sm)(i:Nat):∀q,DC S q=true->Co S q=Co (S.set i (KJ b (S.getD i BA))) q:=λq _=>by rw[Uf,Uf,b31]
theorem c7r(b:Bd)(S:List Sm)(i:Nat):∀j,j<S.length->JB S j=JB (S.set i (KJ b (S.getD i BA))) j:=λj a=>c0g (b31 b S i).symm j a
theorem c7q(b:Bd)(S:List Sm)(i:Nat):S.length=(S.set i (KJ b (S.getD i BA))).length:=Dm
def b3w:HK:=λa own=>match a with
 | [.own 0 0,.fp b 1 i 0]=>(f4e own).map λq=>⟨q.1/\b=true/\i<q.2.2.1.length/\c79 q.2.1 (q.2.2.1.getD i BA),smSV (KJ q.2.1 (q.2.2.1.getD i BA)),c6c q.2.1 (q.2.2.1.set i (KJ q.2.1 (q.2.2.1.getD i BA))) q.2.2.2,[1]⟩
 |_=>none
def d6q:FamH:=⟨(Bd×List Sm×List Ky)×Nat,λ(_,i)=>[.own 0 0,.fp true 1 i 0],λ((b,S,K),_)=>c6c b S K,λ((b,S,_),i)=>b.p.l.length<=100000/\i<S.length/\c79 b (S.getD i BA),λ((b,S,_),i)=>smSV (KJ b (S.getD i BA)),λ((b,S,K),i)=>c6c b (S.set i (KJ b (S.getD i BA))) K,[1]⟩
theorem d9c:HS 118 b3w:=by
 refine HB {l:=[(168,b21),(170,b1z),(107,Uq)],fs:=[(169,b0k),(171,b0i),(108,b11)],fsok:=by simpa using⟨c3m,c1x,c8g⟩,x:=[(162,b87),(164,b8x),(167,d4c)],G:={g0:=[.focus 1],gx:=λ_=>[.unfocus 1]}} ⟨by simpa using⟨d2x,d0w,b95⟩,by simpa using⟨f49,f7g,xSortI⟩,Dm⟩ d6q (λ_ _=>none) b3w ?_ ?_ ?_ Tryz.func118 Dk Dk Dk ?_
 .intro args own r h a;unfold b3w at h;split at h
  .rename_i ok i;simp only[In]at h;obtain⟨⟨q,k,S,K⟩,hx,rfl⟩:=h;obtain⟨m,n,o⟩:=d6f hx a.1;obtain⟨_,rfl,a⟩:=a;exact⟨((k,S,K),i),⟨Dt,Dt,Im⟩,m,n,⟨o,a⟩,rfl,rfl,rfl⟩
  .cases h
 .exact Bt
 .intro i;show 5<=5;decide
 .rintro⟨⟨b,S,K⟩,i⟩ μ ⟨hp0,c,⟨d,f,g⟩,⟨s,t⟩,u,v⟩;refine X0 _ ?_;(repeat' first|constructor|intro h)<;>refine Lm ?_
  all_goals(try simp only[RT.lst_row]at*)
  all_goals(first
   |exact⟨Im,c⟩
   |exact⟨⟨⟨λ_=>Im,Im⟩,RT.is_row BV _,d,s,u⟩,λ_ _=>rfl⟩
   |exact⟨⟨⟨λ_=>Im,Im⟩,RT.is_row BR _,f,t,v⟩,λ_ _=>rfl⟩
   |exact⟨RT.is_row AC _,g⟩
   |exact⟨d,λ_ _=>rfl⟩
   |exact⟨f,λ_ _=>rfl⟩
   |exact⟨g,λ_ _=>rfl⟩
   |exact d
   |exact f
   |exact g
   |exact A2
   |exact(QG _ _).symm
   |exact Lz some (QG _ _).symm
   |exact(b09 _).symm
   |exact Lz some (b09 _).symm
   |exact c7k _ _ _
   |exact c7u _ _ _
   |exact c7r _ _ _
   |exact c7q _ _ _
   |(intro j hj
     by_cases e:j=i
     .subst e;rw[Ih rfl,Xf c,Ih rfl];exact⟨rfl,(QG _ _).symm,λ_ _=>rfl,(QG _ _).symm,λ_ _=>rfl,(b09 _).symm,λ_ _=>rfl,Im⟩
     .rw[Ii e,Xf c,Ii e];exact Sh _)
   |skip)
def GF(q:List Int)(x:Cr):Bool:=decide (q=[x.c,x.e])
def Dl(l:List Cr)(q:List Int):Bool:=l.any (GF q)
def b3s:AK
 | [x]=>match Np x with
   |some (a,p)=>some (a/\∀c∈p.l,AD .u8 c.e,.mp (.ints [.i64,.u8]) false (Dl p.l) (λq=>[.bool (Dl p.l q)]))
   |none=>none
 |_=>none
def d6s:Fam:=⟨Pt,λp=>[IG p],λp=>p.l.length<=100000/\∀c∈p.l,AD .u8 c.e,λp=>.mp (.ints [.i64,.u8]) false (Dl p.l) (λq=>[.bool (Dl p.l q)])⟩
def d8j(p:Pt):Nat->Option Inv
 |3=>some {β:=Nat,ok:=λi=>i<=p.l.length,st:=λi=>⟨[⟨13,none,.int .i64 i⟩,⟨12,none,.int .i64 p.l.length⟩,⟨11,none,.sl 3 p.l.length (DS p.l) none⟩,⟨3,none,.omp 1⟩,⟨2,none,.con (.map none)⟩],[.cells 26 [.int .i64 p.W,.int .i64 p.H,.sl 3 p.l.length (DS p.l) none],.map (.ints [.i64,.u8]) false (Dl (p.l.take i)) (λ_=>[.bool true])]⟩,μ:=λi=>p.l.length-i}
 |_=>none
theorem b6c{l:List Cr}{i:Nat}(hi:i<l.length)(q:List Int):(decide (q=[(l.getD i d0).c,(l.getD i d0).e])||Dl (l.take i) q)=Dl (l.take (i+1)) q:=by
 have:l.take (i+1)=l.take i++[l.getD i d0]:=by rw[La];congr 1;simp[hi]
 unfold Dl;rw[this,List.any_append];simp[GF,Bool.or_comm]
theorem d9i:PS 143 b3s:=by
 refine con [] Dm d6s d8j b3s ?_ ?_ Tryz.func143 Dk Dk Dk ?_
 .intro args pre s h hp;unfold b3s at h;split at h
  .split at h
   .rename_i a p hx;cases h;exact Cp
   .cases h
  .cases h
 .exact Bu
 .rintro(p:Pt) hp;replace hp:p.l.length<=100000/\∀c∈p.l,AD .u8 c.e:=hp;refine X0 _ ?_;(repeat' first|constructor|intro h)<;>refine Lm ?_
  refine⟨(0:Nat),Ix _,?_,?_⟩
  .refine X0 _ ?_;(repeat' first|constructor|intro h)<;>refine Lm ?_
   all_goals first|exact A8|(intro q;first|rfl|(intro f;exact absurd f Dm))|skip
  .intro i d;replace d:i<=p.l.length:=d;refine X0 _ ?_;(repeat' first|constructor|intro h)<;>refine Lm ?_
   all_goals(first
    |(have q:i<p.l.length:=by simpa using h
      first
      |exact Ap
      |refine⟨i+1,q,Dj,?_⟩)
    |(have q:p.l.length<=i:=by simpa using h
      intro u;first
      |(rw[Kh q];done)
      |(rw[Kh q];intro w;rw[w]))
    |skip)
   all_goals refine X0 _ ?_;(repeat' first|constructor|intro h)<;>refine Lm ?_
   all_goals first|exact Aw|(intro u;have q:i<p.l.length:=Dr;first|exact b6c q u|(intro _;cases decide (u=[(p.l.getD (i:Int).toNat d0).c,(p.l.getD (i:Int).toNat d0).e])<;>rfl))|skip
def GG(a b:Mv):Mv:=⟨PN a.t a.x a.y b.t b.x b.y,VG a.t a.x a.y b.t b.x b.y,Td a.t a.x a.y b.t b.x b.y⟩
def EG(k C:Int):Mv:=⟨keep (FE k C) (NM k),keep (FE k C) (Ph k C),keep (FE k C) (QJ k C)⟩
def DJ(W H i e:Int):List Int:=[DT W H i e,ER W H i e]
def HJ(W H:Int)(has:List Int->Bool)(m:Mv)(i e:Int):Mv:=
 bif has (DJ W H i e)then GG (EG (Sb W H (DT W H i e) (ER W H i e)) (TG W H (DT W H i e) (ER W H i e))) m else m
def b98:AK
 | [.int .i64 i,.int .u8 e,.rel 3 1 g 0 0,.rel 1 1 b 0 0,.rel 1 1 c 0 0]=>match g 0,b 0,c 0 with
   | [.int .i64 W,.int .i64 H,_],[.mp (.ints [.i64,.u8]) false a val],[.sl 3 m h _]=>
     some ((0<=e/\0<=i/\i<m)/\h=AE.row (AE.lst m h)/\(∀q,val q=[.bool (a q)])/\(∀x∈AE.lst m h,0<=x.t/\x.t<=255),
      .agg (AE.sv (HJ W H a ((AE.lst m h).getD i.toNat AE.d) i e)))
   |_,_,_=>none
 |_=>none
def c9b:Fam:=⟨(Int×Int×Int×Int)×SV×(List Int->Bool)×List Mv×Option Nat,
 λ((i,e,W,H),b,a,L,c)=>[.int .i64 i,.int .u8 e,.rel 3 1 (λ_=>[.int .i64 W,.int .i64 H,b]) 0 0,.rel 1 1 (λ_=>[.mp (.ints [.i64,.u8]) false a (λq=>[.bool (a q)])]) 0 0,.rel 1 1 (λ_=>[.sl 3 L.length (AE.row L) c]) 0 0],
 λ((i,e,_,_),_,_,L,_)=>(0<=e/\0<=i/\i<L.length)/\∀x∈L,0<=x.t/\x.t<=255,
 λ((i,e,W,H),_,a,L,_)=>.agg (AE.sv (HJ W H a (L.getD i.toNat AE.d) i e))⟩
theorem f5q:PS 144 b98:=by
 refine con [(140,Rh),(145,b1c),(61,XR),(90,Tk)] (by simpa using⟨d68,c8r,pMvOf,f54⟩) c9b (λ_ _=>none) b98 ?_ ?_ Tryz.func144 Dk Dk Dk ?_
 .intro args pre s h b;unfold b98 at h;split at h
  .split at h
   .rename_i i e g g2 g3 _ _ _ W H f a val m l c n o r;cases h;obtain⟨u,v,w,y⟩:=b;have z:val=λq=>[.bool (a q)]:=Md w;refine⟨((i,e,W,H),f,a,AE.lst m l,c),?_,⟨by rw[RT.lst_length];exact u,y⟩,rfl⟩;simp only[c9b,BG,SV.le2,SV.le1,SV.le0,Jv,Mn,and_true,RT.lst_length];refine⟨λj k=> ?_,λj k=> ?_,λj k=> ?_⟩
    .rw[show j=0 from Dj,n]
    .rw[show j=0 from Dj,o,z]
    .rw[show j=0 from Dj,r,<-v]
   .cases h
  .cases h
 .exact C7
 .rintro⟨⟨i,e,W,H⟩,f,a,L,c⟩ b;replace b:(0<=e/\0<=i/\i<L.length)/\∀x∈L,0<=x.t/\x.t<=255:=b;refine X0 _ ?_;(repeat' first|constructor|intro h)<;>refine Lm ?_
  all_goals(have A:0<=ER W H i e:=by(unfold ER;split<;>omega))
  all_goals(first
   |exact b.1.1
   |exact b.1.2
   |exact A
   |(intro q;rw[q];rfl)
   |(have q:a (DJ W H i e)=false:=by simpa[DJ]using h
     unfold HJ;rw[q,cond_false])
   |(have q:a (DJ W H i e)=true:=by simpa[DJ]using h
     unfold HJ;rw[q,cond_true];rfl)
   |(have m:L.getD i.toNat AE.d∈L:=by simp[show i.toNat<L.length from Dj]
     refine⟨?_,b.2 _ m⟩;unfold keep NM;split<;>omega)
   |(have m:L.getD i.toNat AE.d∈L:=by simp[If,show i.toNat<L.length from Dj]
     refine⟨?_,b.2 _ m⟩;unfold keep NM;grind)
   |skip)
theorem nv_le{W H i e:Int}(hs:AM W H=0)(c:0<=e)(h:AQ W H i e=0):0<=AF W H i e/\AF W H i e<4*(W*H):=by
 have b:=b2x h;have hq:=d0f (X:=BO W H i) (Y:=BP W H i) (Rt W H i).1 c;unfold AQ at h;rw[Ih b]at h;split at h
 .rename_i d;unfold AF;rw[Ih b,Ih d];unfold Ot;rw[Ih h];unfold KN at h;rw[Ih hs]at h;split at h
  .rename_i a;have:=f51 (X:=ID (BO W H i) (BP W H i) (BT W H i) e) (Y:=IF (BO W H i) (BP W H i) (BT W H i) e) hs a.2.1 a.2.2.1 a.2.2.2.1 a.2.2.2.2;omega
  .cases h
 .cases h
theorem c4n{t x y u z w:Int}(b:0<=t)(c:0<=u):0<=PN t x y u z w/\PN t x y u z w<=255:=by
 unfold PN keep;split
 .rename_i h;unfold GK at h;split at h
  .rename_i a;have:=cT_le b (Rr a.1).1 c (Rr a.2).1;omega
  .cases h
 .omega
theorem d4e(k C:Int):0<=(EG k C).t/\(EG k C).t<=255:=by simp only[EG];unfold keep NM;grind
theorem c0v{W H:Int}{has:List Int->Bool}{m:Mv}{i e:Int}(a:0<=m.t/\m.t<=255):0<=(HJ W H has m i e).t/\(HJ W H has m i e).t<=255:=by
 unfold HJ;cases has (DJ W H i e)
 .exact a
 .exact c4n (d4e _ _).1 a.1
theorem b29{l:List Bool}:∀{n:Nat},n<l.length->l.getD n false=false->(l.set n true).count false+1=l.count false:=by
 induction l with
 |nil=>intro n h;simp at h
 |cons b l c=>
  intro n h a;match n with
  |0=>
   simp at a;subst a;simp
  |n+1=>
   have:=c (n:=n) Dr (by simpa using a);cases b<;>simp[]<;>omega
theorem b32{l:List Mv}{n:Nat}{m:Mv}{q:Mv->Prop}(a:∀x∈l,q x)(b:q m):∀x∈l.set n m,q x:=by
 intro x hx;rcases L6 hx with hx|rfl
 .exact a x hx
 .exact b
def vM(m:Mv):Prop:=0<=m.t/\DA m.t m.x m.y=0
def vC(c:Cl):Prop:=(-4096<=c.x/\c.x<=4096)/\(-4096<=c.y/\c.y<=4096)/\0<=c.q/\c.q<=3
def DF(m:Mv)(c:Cl):Cl:=⟨Jo m.t m.x m.y c.x c.y,KP m.t m.x m.y c.x c.y,JO m.t c.q⟩
def AP(c:Cl)(e:Int):Cl:=⟨DR c.q e+c.x,DU c.q e+c.y,DW c.q e⟩
theorem FC{m:Mv}(h:vM m):m.t=0\/m.t=1\/m.t=2\/m.t=3\/m.t=4\/m.t=5\/m.t=6\/m.t=7:=by
 obtain⟨h0,a⟩:=h;unfold DA at a;split at a
 .omega
 .omega
theorem OH{m:Mv}(h:vM m):(-16384<=m.x/\m.x<=16384)/\(-16384<=m.y/\m.y<=16384)/\(m.x+m.y)%2=0:=by
 obtain⟨h0,a⟩:=h;unfold DA at a;split at a
 .omega
 .omega
theorem EJ{q:Int}(h:0<=q/\q<=3):q=0\/q=1\/q=2\/q=3:=Dj
theorem GN{e:Int}(h:0<=e/\e<3):e=0\/e=1\/e=2:=Dj
def AL(t:Int)(a b:Int):Int×Int:=if t=0 then(a,b)else if t=1 then(-b,a)else if t=2 then(-a,-b)else if t=3 then(b,-a)else if t=4 then(-a,b)else if t=5 then(-b,-a)else if t=6 then(a,-b)else(b,a)
theorem b3g{t a b:Int}(h:t=0\/t=1\/t=2\/t=3\/t=4\/t=5\/t=6\/t=7):IU t a b=(AL t a b).1/\IW t a b=(AL t a b).2:=by rcases h with rfl|rfl|rfl|rfl|rfl|rfl|rfl|rfl<;>simp[IU,IW,AL,tA,tB,tC,tD,tb]
theorem po_eq{m:Mv}{a b:Int}(h:vM m)(ha: -9000<=a/\a<=9000)(hb: -9000<=b/\b<=9000):MR m.t m.x m.y a b=(AL m.t a b).1+2*m.x/\MN m.t m.x m.y a b=(AL m.t a b).2+2*m.y:=by
 have h1:=OH h;have c:=@b3g m.t a b (FC h);have e:Ob m.t m.x m.y a b=0:=by unfold Ob;rw[Ih ⟨h.2,by unfold KC;rw[if_pos];omega⟩,if_pos];rw[c.1,c.2];unfold KC;rw[Ih];rcases FC h with e|e|e|e|e|e|e|e<;>simp only[AL,e]<;>simp<;>omega
 unfold MR MN keep;rw[Ih e,Ih e,c.1,c.2];exact⟨rfl,rfl⟩
theorem c75{p:Int}(h:p%2=1):PK p=(p-1)/2:=by unfold PK;rw[h,Int.tdiv_eq_ediv];split<;>omega
def sq(t:Int)(X Y:Int):Int×Int:=if t=0 then(X,Y)else if t=1 then(-Y-1,X)else if t=2 then(-X-1,-Y-1)else if t=3 then(Y,-X-1)else if t=4 then(-X-1,Y)else if t=5 then(-Y-1,-X-1)else if t=6 then(X,-Y-1)else(Y,X)
theorem mv_sq{m:Mv}{X Y:Int}(h:vM m)(hx: -4200<=X/\X<=4200)(hy: -4200<=Y/\Y<=4200):Jo m.t m.x m.y X Y=(sq m.t X Y).1+m.x/\KP m.t m.x m.y X Y=(sq m.t X Y).2+m.y:=by have a:=@po_eq m (2*X+1) (2*Y+1) h Dj Dj;unfold Jo KP;rw[a.1,a.2];rcases FC h with e|e|e|e|e|e|e|e<;>simp only[AL,sq,e]<;>simp<;>(rw[c75 Dj,c75 Dj];omega)
def tq(t:Int)(q:Int):Int:=tb (if t=0 then [0,1,2,3]else if t=1 then [1,2,3,0]else if t=2 then [2,3,0,1]else if t=3 then [3,0,1,2]else if t=4 then [0,3,2,1]else if t=5 then [1,0,3,2]else if t=6 then [2,1,0,3]else [3,2,1,0]) q.toNat
theorem mvQ_tq{t q:Int}(h:t=0\/t=1\/t=2\/t=3\/t=4\/t=5\/t=6\/t=7)(a:0<=q/\q<=3):JO t q=tq t q:=by rcases h with rfl|rfl|rfl|rfl|rfl|rfl|rfl|rfl<;>rcases EJ a with rfl|rfl|rfl|rfl<;>rfl
theorem HY{m:Mv}{c:Cl}(h:vM m)(a:(-4200<=c.x/\c.x<=4200)/\(-4200<=c.y/\c.y<=4200)/\0<=c.q/\c.q<=3):DF m c=⟨(sq m.t c.x c.y).1+m.x,(sq m.t c.x c.y).2+m.y,tq m.t c.q⟩:=by have b:=mv_sq h a.1 a.2.1;unfold DF;rw[b.1,b.2,mvQ_tq (FC h) a.2.2]
theorem Wo{c:Cl}(h:vC c):(-4200<=c.x/\c.x<=4200)/\(-4200<=c.y/\c.y<=4200)/\0<=c.q/\c.q<=3:=by unfold vC at h;omega
theorem Cl.ext'{a b:Cl}(h1:a.x=b.x)(h2:a.y=b.y)(h3:a.q=b.q):a=b:=Hj
theorem c8z{m:Mv}{c d:Cl}(h:vM m)(g:vC c)(i:vC d)(e:DF m c=DF m d):c=d:=by
 rw[HY h (Wo g),HY h (Wo i)]at e;simp only[Cl.mk.injEq]at e;obtain⟨j,k,f⟩:=e;have l:c.q=d.q:=by rcases FC h with e|e|e|e|e|e|e|e<;>simp only[e,tq]at f<;>rcases EJ g.2.2 with a|a|a|a<;>rcases EJ i.2.2 with b|b|b|b<;>rw[a,b]at f⊢ <;>revert f<;>decide
 refine Cl.ext' ?_ ?_ l<;>(rcases FC h with e|e|e|e|e|e|e|e<;>simp only[e,sq]at j k<;>simp at j k<;>omega)
theorem d85{a b:Mv}(h:GK a.t a.x a.y b.t b.x b.y=0):DA a.t a.x a.y=0/\DA b.t b.x b.y=0/\KZ (cT a.t b.t) (IU b.t a.x a.y+b.x) (IW b.t a.x a.y+b.y)=0:=by
 unfold GK at h;split at h
 .rename_i e;exact⟨e.1,e.2,h⟩
 .cases h
def tt(t u:Int):Int:=tb (tbl u.toNat) t.toNat
where tbl:Nat->List Int
 |0=>[0,1,2,3,4,5,6,7]
 |1=>[1,2,3,0,5,6,7,4]
 |2=>[2,3,0,1,6,7,4,5]
 |3=>[3,0,1,2,7,4,5,6]
 |4=>[4,7,6,5,0,3,2,1]
 |5=>[5,4,7,6,1,0,3,2]
 |6=>[6,5,4,7,2,1,0,3]
 |_=>[7,6,5,4,3,2,1,0]
theorem f3w{t u:Int}(h:t=0\/t=1\/t=2\/t=3\/t=4\/t=5\/t=6\/t=7)(k:u=0\/u=1\/u=2\/u=3\/u=4\/u=5\/u=6\/u=7):cT t u=tt t u:=by rcases h with rfl|rfl|rfl|rfl|rfl|rfl|rfl|rfl<;>rcases k with rfl|rfl|rfl|rfl|rfl|rfl|rfl|rfl<;>rfl
theorem UQ{a b:Mv}(j:0<=a.t)(k:0<=b.t)(h:GK a.t a.x a.y b.t b.x b.y=0):GG a b=⟨tt a.t b.t,(AL b.t a.x a.y).1+b.x,(AL b.t a.x a.y).2+b.y⟩/\vM a/\vM b/\vM (GG a b):=by
 obtain⟨l,m,f⟩:=d85 h;have g:vM a:=⟨j,l⟩
 have d:vM b:=⟨k,m⟩
 have e:=@b3g b.t a.x a.y (FC d);have n:GG a b=⟨cT a.t b.t,IU b.t a.x a.y+b.x,IW b.t a.x a.y+b.y⟩:=by simp[GG,PN,VG,Td,keep,h]
 rw[n];have i:=f3w (FC g) (FC d);refine⟨by rw[e.1,e.2,i],g,d,?_,?_⟩
 .show 0<=cT a.t b.t;rw[i];rcases FC g with e|e|e|e|e|e|e|e<;>rcases FC d with c|c|c|c|c|c|c|c<;>rw[e,c]<;>decide
 .unfold KZ at f;split at f
  .assumption
  .cases f
theorem d93{t q:Int}(h:t=0\/t=1\/t=2\/t=3\/t=4\/t=5\/t=6\/t=7)(a:0<=q/\q<=3):0<=tq t q/\tq t q<=3:=by rcases h with rfl|rfl|rfl|rfl|rfl|rfl|rfl|rfl<;>rcases EJ a with rfl|rfl|rfl|rfl<;>decide
theorem tq_tt{t u q:Int}(h:t=0\/t=1\/t=2\/t=3\/t=4\/t=5\/t=6\/t=7)(k:u=0\/u=1\/u=2\/u=3\/u=4\/u=5\/u=6\/u=7)(a:0<=q/\q<=3):tq (tt t u) q=tq u (tq t q):=by rcases h with rfl|rfl|rfl|rfl|rfl|rfl|rfl|rfl<;>rcases k with rfl|rfl|rfl|rfl|rfl|rfl|rfl|rfl<;>rcases EJ a with rfl|rfl|rfl|rfl<;>decide
theorem sq_tt{t u X Y x y:Int}(h:t=0\/t=1\/t=2\/t=3\/t=4\/t=5\/t=6\/t=7)(k:u=0\/u=1\/u=2\/u=3\/u=4\/u=5\/u=6\/u=7):(sq (tt t u) X Y).1+(AL u x y).1=(sq u ((sq t X Y).1+x) ((sq t X Y).2+y)).1/\(sq (tt t u) X Y).2+(AL u x y).2=(sq u ((sq t X Y).1+x) ((sq t X Y).2+y)).2:=by rcases h with rfl|rfl|rfl|rfl|rfl|rfl|rfl|rfl<;>rcases k with rfl|rfl|rfl|rfl|rfl|rfl|rfl|rfl<;>(simp[sq,tt,tt.tbl,tb,AL];try omega)
theorem b85{a b:Mv}{c:Cl}(i:0<=a.t)(j:0<=b.t)(h:GK a.t a.x a.y b.t b.x b.y=0)(d:vC c)(k:vC (DF a c)):DF (GG a b) c=DF b (DF a c):=by obtain⟨e,f,g,l⟩:=UQ i j h;rw[HY g (Wo k),HY l (Wo d),HY f (Wo d),e];simp only[Cl.mk.injEq];have:=@sq_tt a.t b.t c.x c.y a.x a.y (FC f) (FC g);refine⟨Dj,Dj,tq_tt (FC f) (FC g) d.2.2⟩
theorem f3u{C:Int}(h: -4096<=C/\C<=4096):EG 1 C=⟨4,2*C,0⟩/\vM ⟨4,2*C,0⟩:=by
 refine⟨?_,(by show (0:Int)<=4;omega),?_⟩
 .simp[EG,keep,FE,h,NM,Ph,QJ]
 .exact C9
theorem f78{C:Int}(h: -4096<=C/\C<=4096):EG 2 C=⟨6,0,2*C⟩/\vM ⟨6,0,2*C⟩:=by
 refine⟨?_,(by show (0:Int)<=6;omega),?_⟩
 .simp[EG,keep,FE,h,NM,Ph,QJ]
 .exact C9
theorem ref_u{C:Int}(h: -4096<=C/\C<=4096):EG 3 C=⟨5,C,C⟩/\vM ⟨5,C,C⟩:=by
 refine⟨?_,(by show (0:Int)<=5;omega),?_⟩
 .simp[EG,keep,FE,h,NM,Ph,QJ]
 .exact C9
theorem ref_d{C:Int}(h: -4096<=C/\C<=4096):EG 4 C=⟨7,-C,C⟩/\vM ⟨7,-C,C⟩:=by
 refine⟨?_,(by show (0:Int)<=7;omega),?_⟩
 .simp[EG,keep,FE,h,NM,Ph,QJ]
 .exact C9
theorem b77{c:Cl}{e:Int}(b:0<=e/\e<3)(a:(-300<=c.x/\c.x<=300)/\(-300<=c.y/\c.y<=300)/\0<=c.q/\c.q<=3):
 vM (EG (CM c.q e) (CY c.x c.y c.q e))/\DF (EG (CM c.q e) (CY c.x c.y c.q e)) c=AP c e/\DF (EG (CM c.q e) (CY c.x c.y c.q e)) (AP c e)=c/\
 ((-700<=(EG (CM c.q e) (CY c.x c.y c.q e)).x/\(EG (CM c.q e) (CY c.x c.y c.q e)).x<=700)/\ -700<=(EG (CM c.q e) (CY c.x c.y c.q e)).y/\(EG (CM c.q e) (CY c.x c.y c.q e)).y<=700):=by
 obtain⟨X,Y,Q⟩:=c;simp only at a;rcases EJ a.2.2 with rfl|rfl|rfl|rfl<;>rcases GN b with rfl|rfl|rfl<;>
 .simp[CM,CY,HU,JL,tb];first
   |obtain⟨r,vm⟩:=@f3u X Dj
    rw[r];refine⟨vm,?_,?_,?_⟩<;>first|exact B3|(rw[HY vm F5];simp[AP,sq,tq,DR,DU,DW,tb];done)|exact A9
   |obtain⟨r,vm⟩:=@f3u (X+1) Dj
    rw[r];refine⟨vm,?_,?_,?_⟩<;>first|exact B3|(rw[HY vm F5];simp[AP,sq,tq,DR,DU,DW,tb];done)|exact A9
   |obtain⟨r,vm⟩:=@f78 Y Dj
    rw[r];refine⟨vm,?_,?_,?_⟩<;>first|exact B3|(rw[HY vm F5];simp[AP,sq,tq,DR,DU,DW,tb];done)|exact A9
   |obtain⟨r,vm⟩:=@f78 (Y+1) Dj
    rw[r];refine⟨vm,?_,?_,?_⟩<;>first|exact B3|(rw[HY vm F5];simp[AP,sq,tq,DR,DU,DW,tb];done)|exact A9
   |obtain⟨r,vm⟩:=@ref_u (X+Y+1) Dj
    rw[r];refine⟨vm,?_,?_,?_⟩<;>first|exact B3|(rw[HY vm F5];simp[AP,sq,tq,DR,DU,DW,tb];done)|exact A9
   |obtain⟨r,vm⟩:=@ref_d (Y-X) Dj
    rw[r];refine⟨vm,?_,?_,?_⟩<;>first|exact B3|(rw[HY vm F5];simp[AP,sq,tq,DR,DU,DW,tb];done)|exact A9
   |skip
structure BS where
 out:List Mv
 kn:List Bool
 wt:List Int
def JZ(W H:Int)(has:List Int->Bool)(s:BS)(i e:Int):Option BS:=
 if AQ W H i e=0 then
  let n:=(AF W H i e).toNat
  let m:=HJ W H has (s.out.getD i.toNat AE.d) i e
  let a:BS:=bif s.kn.getD n false then s else⟨s.out.set n m,s.kn.set n true,s.wt++[AF W H i e]⟩
  if a.out.getD n AE.d=m then some a else none
 else some s
def LH(W H:Int)(has:List Int->Bool)(i:Int):List Int->BS->Option BS
 | [],s=>some s
 |e::l,s=>(JZ W H has s i e).bind (LH W H has i l)
def HM(W H:Int)(has:List Int->Bool):Nat->BS->Option (List Mv)
 |0,s=>match s.wt with
  | []=>some s.out
  |_::_=>none
 |f+1,s=>match s.wt with
  | []=>some s.out
  |i::r=>(LH W H has i [0,1,2] ⟨s.out,s.kn,r⟩).bind (HM W H has f)
def FB(p:Pt):Nat:=(4*p.W*p.H).toNat
def EW(n:Nat):BS:=⟨List.replicate n AE.d,(List.replicate n false).set 0 true,[0]⟩
def MB(p:Pt):Option (List Mv):=HM p.W p.H (Dl p.l) (2*FB p+1) (EW (FB p))
def HX(p:Pt):Int:=if(MB p).isSome then 0 else 11
def AY(p:Pt):List Mv:=(MB p).getD []
def hRel:HK:=λb own=>match b,own with
 | [x],[]=>match Np x with
   |some (a,p)=>some ⟨a/\(∀c∈p.l,AD .u8 c.e)/\BF p=0,.tup [.osl 0,.int .i64 (HX p)],[.row 28 3 (AY p).length (AE.row (AY p)) none],[]⟩
   |none=>none
 |_,_=>none
def FRel:FamH:=⟨Pt,λp=>[IG p],λ_=>[],λp=>p.l.length<=100000/\(∀c∈p.l,AD .u8 c.e)/\BF p=0,λp=>.tup [.osl 0,.int .i64 (HX p)],λp=>[.row 28 3 (AY p).length (AE.row (AY p)) none],[]⟩
def c3c(t:Nat)(T:TypeId)(sz:Nat)(st:St):List Ghost:=match BW t st.ρ with
 |some e=>match e.sv with
  |.osl k=>[.sel [k]]
  |_=>[.nil t T sz,.sel [st.own.length]]
 |none=>[]
def JE(s:BS):Nat:=s.kn.count false
def lens(p:Pt)(s:BS):Prop:=s.out.length=FB p/\s.kn.length=FB p/\(∀i∈s.wt,0<=i/\i<FB p)/\∀m∈s.out,0<=m.t/\m.t<=255
def ownR(p:Pt)(s:BS):List Blk:=[.cells 26 [.int .i64 p.W,.int .i64 p.H,.sl 3 p.l.length (DS p.l) none],.cells 233 [.mp (.ints [.i64,.u8]) false (Dl p.l) (λq=>[.bool (Dl p.l q)])],.row 28 3 s.out.length (AE.row s.out) none,.cells 67 [.osl 2],.row 4 1 s.kn.length (FX.row s.kn) none,.row 3 1 s.wt.length (AC.row s.wt) none]
def IRel(p:Pt):Nat->Option Inv
 |7=>some {β:=BS×Nat,ok:=λ(s,f)=>lens p s/\MB p=HM p.W p.H (Dl p.l) f s/\2*JE s+s.wt.length<=f/\f<=2*FB p+1,st:=λ(s,_)=>⟨[⟨8,none,.osl 5⟩,⟨7,none,.clo 144 [.own 0 0,.own 1 0,.own 3 0]⟩,⟨6,none,.osl 4⟩,⟨5,none,.own 3 0⟩,⟨3,none,.int .i64 0⟩,⟨2,none,.con (.slice none 0 0)⟩,⟨1,none,.own 0 0⟩],ownR p s⟩,μ:=λ(_,f)=>f,sub:=λ(_,f)=>some fun
   |11=>some {β:=BS×Nat×Int,ok:=λ(s,e,i)=>e<=3/\lens p s/\(0<=i/\i<FB p)/\MB p=(LH p.W p.H (Dl p.l) i ([0,1,2].drop e) s).bind (HM p.W p.H (Dl p.l) (f-1))/\2*JE s+s.wt.length<=f-1/\0<f/\f<=2*FB p+1,st:=λ(s,e,i)=>⟨[⟨35,none,.int .u8 e⟩,⟨9,none,.int .i64 i⟩,⟨8,none,.osl 5⟩,⟨7,none,.clo 144 [.own 0 0,.own 1 0,.own 3 0]⟩,⟨6,none,.osl 4⟩,⟨5,none,.own 3 0⟩,⟨3,none,.int .i64 0⟩,⟨2,none,.con (.slice none 0 0)⟩,⟨1,none,.own 0 0⟩],ownR p s⟩,μ:=λ(_,e,_)=>3-e}
   |_=>none}
 |_=>none
theorem b99{W H:Int}{has:List Int->Bool}{f:Nat}{s:BS}(h:s.wt=[]):HM W H has f s=some s.out:=by cases f<;>simp[HM,h]
theorem b7k{W H:Int}{has:List Int->Bool}{f:Nat}{s:BS}{i:Int}{r:List Int}(h:s.wt=i::r):HM W H has (f+1) s=(LH W H has i [0,1,2] ⟨s.out,s.kn,r⟩).bind (HM W H has f):=by simp[HM,h]
theorem b7c{W H:Int}{has:List Int->Bool}{i:Int}{e:Nat}{s:BS}(h:e<3):LH W H has i ([0,1,2].drop e) s=(JZ W H has s i e).bind (LH W H has i ([0,1,2].drop (e+1))):=by have:e=0\/e=1\/e=2:=Dj;rcases this with rfl|rfl|rfl<;>rfl
theorem mvEq(a b:Mv):(decide (a.t=b.t)&&(decide (a.x=b.x)&&(decide (a.y=b.y)&&true)))=decide (a=b):=by cases a;cases b;simp[Bool.decide_and]
theorem b1n{W H:Int}{has:List Int->Bool}{s:BS}{i e:Int}(h:AQ W H i e=0)(a:s.kn.getD (AF W H i e).toNat false=true):
 JZ W H has s i e=if s.out.getD (AF W H i e).toNat AE.d=HJ W H has (s.out.getD i.toNat AE.d) i e then some s else none:=by
 simp only[JZ,Ih h,a,M4]
theorem c12{W H:Int}{has:List Int->Bool}{s:BS}{i e:Int}(h:AQ W H i e=0)(a:s.kn.getD (AF W H i e).toNat false=false)(b:(AF W H i e).toNat<s.out.length):
 JZ W H has s i e=some ⟨s.out.set (AF W H i e).toNat (HJ W H has (s.out.getD i.toNat AE.d) i e),s.kn.set (AF W H i e).toNat true,s.wt++[AF W H i e]⟩:=by
 simp only[JZ,Ih h,a,cond_false];rw[Ih];rw[If,Jq b];rfl
theorem VA{α:Type}(n i:Nat)(d:α):(List.replicate n d).getD i d=d:=by rw[If,List.getElem?_replicate];split<;>rfl
theorem MZ(n i:Nat)(h:0<n):((List.replicate n false).set 0 true).getD i false=decide (i=0):=by
 match n,i with
 |n+1,0=>rfl
 |n+1,i+1=>simpa[List.replicate_succ]using VA n i false
theorem b2a{p:Pt}(h:AM p.W p.H=0):4<=FB p/\FB p<=1024/\EK p.W p.H=FB p:=by have z:=Ow h;unfold FB EK;rw[Ih h];omega
theorem pRel:HS 103 hRel:=by
 refine HB {l:=[(143,b3s),(112,Tx),(124,Sc),(144,b98)],G:={gx:=c3c 2 28 3}} ⟨by simpa using⟨d9i,d0y,b13,f5q⟩,Dm,Dm⟩ FRel IRel hRel ?_ ?_ ?_ Tryz.func103 Dk Dk Dk ?_
 .intro args own r h u;unfold hRel at h;split at h
  .split at h
   .rename_i a p hx;cases h;exact⟨p,⟨(Oq hx u.1).1,Im⟩,rfl,Im,⟨(Oq hx u.1).2,u.2⟩,rfl,rfl,rfl⟩
   .cases h
  .cases h
 .exact Bu
 .intro i;exact Ix _
 .rintro(p:Pt) μ u;replace u:p.l.length<=100000/\(∀c∈p.l,AD .u8 c.e)/\BF p=0:=u;have hs:=(FQ u.2.2).1;obtain⟨n1,n2,M⟩:=b2a hs;refine X0 _ ?_;(repeat' first|constructor|intro h)<;>refine Lm ?_
  all_goals(try simp only[M,CL])
  all_goals(first
   |exact⟨⟨EY _,u.1⟩,u.2.1⟩
   |omega
   |exact Ar
   |skip)
  refine⟨(EW (FB p),2*FB p+1),⟨⟨?_,?_,?_,?_⟩,rfl,?_,Ir _⟩,?_,?_⟩
  .simp[EW]
  .simp[EW]
  .intro i o;simp[EW]at o;omega
  .intro m N;have:m=AE.d:=(List.mem_replicate.1 N).2;rw[this];decide
  .have:JE (EW (FB p))<=FB p:=by
    unfold JE;refine Ke List.count_le_length ?_;simp[EW]
   show 2*JE (EW (FB p))+1<=_;omega
  .refine X0 _ ?_;(repeat' first|constructor|intro h)<;>refine Lm ?_
   all_goals(first
    |exact A8
    |exact Bb
    |(simp[EW];done)
    |(intro i o;show _=AE.sv (List.getD _ i AE.d);rw[show (EW (FB p)).out=List.replicate (FB p) AE.d from rfl,VA];rfl)
    |(intro i o
      show DH (decide (i=0)) _ _=FX.sv (List.getD _ i false);rw[show (EW (FB p)).kn=(List.replicate (FB p) false).set 0 true from rfl,MZ _ _ Dj];generalize decide (i=0)=b;cases b<;>rfl)
    |(intro i o;(have:i=0:=Dj);subst this;rfl)
    |skip)
  .rintro⟨s,f⟩ ⟨k,hr,v,y⟩;replace k:lens p s:=k;replace hr:MB p=HM p.W p.H (Dl p.l) f s:=hr;replace v:2*JE s+s.wt.length<=f:=v;replace y:f<=2*FB p+1:=y;refine X0 _ ?_;(repeat' first|constructor|intro h)<;>refine Lm ?_
   all_goals(first
    |(have C:0<s.wt.length:=by simpa using h
      first
      |omega
      |exact C
      |(obtain⟨i,r,A⟩:∃i r,s.wt=i::r:=by(cases e:s.wt with|nil=>(rw[e]at C;exact absurd C Dn)|cons i r=>exact⟨i,r,rfl⟩)
        have o:=k.2.2.1 i (by rw[A];simp);have bf:s.wt.length=r.length+1:=by rw[A];rfl
        obtain⟨g,rfl⟩:∃g,f=g+1:=⟨f-1,Dj⟩
        refine⟨((⟨s.out,s.kn,r⟩:BS),(0:Nat),i),⟨Ix 3,⟨k.1,k.2.1,λx hx=>k.2.2.1 x (by rw[A];exact Je _ hx),k.2.2.2⟩,o,hr.trans (b7k A),?_,Nat.succ_pos g,?_⟩,?_,?_⟩))
    |(have C:s.wt=[]:=by(have:s.wt.length=0:=Dr);exact K8 this
      have F:MB p=some s.out:=by rw[hr,b99 C]
      first
      |(unfold AY;rw[F];rfl)
      |(intro i o;unfold AY;rw[F];rfl)
      |(unfold HX;rw[F];rfl))
    |skip)
   .show 2*JE s+r.length<=g;omega
   .show g+1<=_;omega
   .refine X0 _ ?_;(repeat' first|constructor|intro h)<;>refine Lm ?_
    all_goals(first
     |exact A8
     |exact Bb
     |omega
     |(rw[A];rfl)
     |(intro j I;rw[A];exact d5v AC i r j)
     |skip)
   .rintro⟨s,e,i⟩ ⟨J,k,o,hr,v,-,y⟩;have:g+1-1=g:=rfl;replace J:e<=3:=J;replace k:lens p s:=k;replace o:0<=i/\i<FB p:=o;replace hr:MB p=(LH p.W p.H (Dl p.l) i ([0,1,2].drop e) s).bind (HM p.W p.H (Dl p.l) g):=hr;replace v:2*JE s+s.wt.length<=g:=v;replace y:g+1<=2*FB p+1:=y;have K:=@nv_le p.W p.H i e hs Dj;have hc4:(FB p:Int)=4*(p.W*p.H):=by
     have z:=Ow hs;unfold FB;omega
    have O:=k.1;have P:=k.2.1;refine X0 _ ?_;(repeat' first|constructor|intro h)<;>refine Lm ?_
    all_goals(try simp only[RT.lst_row]at*)
    all_goals(first
     |omega
     |(have e3:(e:Int)<3:=Jw ‹decide (_<(3:Int))=true›
       simp only[AD];omega)
     |exact⟨⟨Dj,o.1,Dj⟩,rfl,λ_=>rfl,k.2.2.2⟩
     |(have q:AQ p.W p.H i e=0:=by simpa using(by assumption:(!decide (AQ p.W p.H i e=0))=false)
       have Q:=K q;first
       |(constructor<;>omega)
       |omega
       |(show _<_;omega)
       |(refine⟨Dj,?_⟩;show (_+1)*8<=_;omega))
     |skip)
    all_goals(first
     |exact⟨⟨Dj,o.1,Dj⟩,Im,λ_=>Im,k.2.2.2⟩
     |(have e3:e=3:=by(have q:¬(e:Int)<3:=M5 ‹decide (_<(3:Int))=false›;omega)
       subst e3;refine⟨(s,g),⟨k,hr,v,by show g<=_;omega⟩,Nat.lt_succ_self g,?_⟩)
     |(have e3:e<3:=by(have q:(e:Int)<3:=Jw ‹decide (_<(3:Int))=true›;omega)
       have q:¬AQ p.W p.H i e=0:=by simpa using ‹(!decide (AQ p.W p.H i e=0))=true›
       have h1:JZ p.W p.H (Dl p.l) s i e=some s:=by unfold JZ;rw[if_neg q]
       refine⟨(s,e+1,i),⟨e3,k,o,Gw,v,Nat.succ_pos g,y⟩,G4,?_⟩)
     |(exfalso;simp at h;done)
     |(have e3:e<3:=by(have q:(e:Int)<3:=Jw ‹decide (_<(3:Int))=true›;omega)
       have q:AQ p.W p.H i e=0:=Hk;have E:s.kn.getD (AF p.W p.H i e).toNat false=true:=by simpa[FX]using ‹(!s.kn.getD (AF p.W p.H i e).toNat FX.d)=false›
       first
       |(have R:(!decide (s.out.getD (AF p.W p.H i e).toNat AE.d=HJ p.W p.H (Dl p.l) (s.out.getD i.toNat AE.d) i e))=true:=by rw[<-mvEq];exact h
         have L:MB p=none:=by rw[hr,b7c e3,b1n q E,Ii (by simpa using R)];rfl
         first
         |(unfold AY;rw[L];rfl)
         |(unfold HX;rw[L];rfl))
       |(have S:(!decide (s.out.getD (AF p.W p.H i e).toNat AE.d=HJ p.W p.H (Dl p.l) (s.out.getD i.toNat AE.d) i e))=false:=by rw[<-mvEq];exact h
         have h1:JZ p.W p.H (Dl p.l) s i e=some s:=by rw[b1n q E,Ih (by simpa using S)]
         refine⟨(s,e+1,i),⟨e3,k,o,Gw,v,Nat.succ_pos g,y⟩,G4,?_⟩))
     |(have e3:e<3:=by(have q:(e:Int)<3:=Jw ‹decide (_<(3:Int))=true›;omega)
       have q:AQ p.W p.H i e=0:=Hk;have Q:=K q;have E:s.kn.getD (AF p.W p.H i e).toNat false=false:=by simpa[FX]using ‹(!s.kn.getD (AF p.W p.H i e).toNat FX.d)=true›
       have h1:=c12 (has:=Dl p.l) q E Dj;have hc:=b29 (n:=(AF p.W p.H i e).toNat) Dj E;have T:0<=(s.out.getD i.toNat AE.d).t/\(s.out.getD i.toNat AE.d).t<=255:=k.2.2.2 _ (by simp[show i.toNat<s.out.length from Dj]);refine⟨(⟨s.out.set (AF p.W p.H i e).toNat (HJ p.W p.H (Dl p.l) (s.out.getD i.toNat AE.d) i e),s.kn.set (AF p.W p.H i e).toNat true,s.wt++[AF p.W p.H i e]⟩,e+1,i),⟨e3,⟨by simp[O],by simp[P],λx hx=> ?_,b32 k.2.2.2 (c0v T)⟩,o,Gw,?_,Nat.succ_pos g,y⟩,G4,?_⟩)
     |skip)
    all_goals(first
     |(rcases Jd.1 (by assumption:_∈_++_)with hx|hx
       .exact k.2.2.1 _ hx
       .rw[J6.1 hx];omega)
     |(show 2*(s.kn.set _ true).count false+(s.wt++[_]).length<=g
       unfold JE at v;simp only[I8];omega)
     |skip)
    all_goals refine X0 _ ?_;(repeat' first|constructor|intro h)<;>refine Lm ?_
    all_goals(first
     |exact A8
     |exact Bb
     |omega
     |(simp;done)
     |(intro j I
       by_cases w:j=(AF p.W p.H i e).toNat
       .rw[J7 w,b0x AE Dj w];rfl
       .rw[J9 w,b2y AE w];rfl)
     |(intro j I
       by_cases w:j=(AF p.W p.H i e).toNat
       .rw[J7 w,b0x FX Dj w];rfl
       .rw[J9 w,b2y FX w];rfl)
     |(intro j I
       by_cases q:j<s.wt.length
       .rw[Ih q,b06 AC q]
       .rw[Ii q,show j=s.wt.length from Dj,Ka,YB];rfl)
     |skip)
theorem d23{W H:Int}{has:List Int->Bool}{s b:BS}{i e:Int}(h:JZ W H has s i e=some b)(a:∀m∈s.out,0<=m.t/\m.t<=255):b.out.length=s.out.length/\∀m∈b.out,0<=m.t/\m.t<=255:=by
 unfold JZ at h;split at h
 .simp only at h;split at h
  .cases h;cases s.kn.getD (AF W H i e).toNat false with
   |true=>exact⟨rfl,a⟩
   |false=>
    simp only[cond_false];refine⟨Dm,b32 a (c0v ?_)⟩;rw[If];cases hg:s.out[i.toNat]? with
    |none=>decide
    |some m=>exact a m (Ik hg)
  .cases h
 .cases h;exact⟨rfl,a⟩
theorem c19{W H:Int}{has:List Int->Bool}{i:Int}:∀(l:List Int) {s f:BS},LH W H has i l s=some f->(∀m∈s.out,0<=m.t/\m.t<=255)->f.out.length=s.out.length/\∀m∈f.out,0<=m.t/\m.t<=255
 | [],s,f,h,g=>by cases h;exact⟨rfl,g⟩
 |e::l,s,f,h,g=>by simp only[LH,Ip]at h;obtain⟨s1,j,k⟩:=h;obtain⟨a,b⟩:=d23 j g;obtain⟨c,d⟩:=c19 l k b;exact⟨c.trans a,d⟩
theorem d0t{W H:Int}{has:List Int->Bool}:∀(f:Nat) {s:BS} {l:List Mv},HM W H has f s=some l->(∀m∈s.out,0<=m.t/\m.t<=255)->l.length=s.out.length/\∀m∈l,0<=m.t/\m.t<=255
 |0,s,l,h,e=>by
  simp only[HM]at h;split at h<;>cases h
  exact⟨rfl,e⟩
 |f+1,s,l,h,e=>by
  simp only[HM]at h;split at h
  .cases h;exact⟨rfl,e⟩
  .simp only[Ip]at h;obtain⟨s1,g,i⟩:=h;obtain⟨a,b⟩:=c19 _ g (s:=⟨s.out,s.kn,_⟩) e;obtain⟨c,d⟩:=d0t f i b;exact⟨c.trans a,d⟩
theorem b8y(p:Pt):(HX p=0->(AY p).length=FB p)/\(∀m∈AY p,0<=m.t/\m.t<=255)/\(AY p).length<=FB p:=by
 unfold HX AY;cases h:MB p with
 |none=>simp
 |some l=>
  have:=d0t _ h (λm a=>by have:m=AE.d:=(List.mem_replicate.1 a).2;rw[this];decide)
  simp only[EW,List.length_replicate]at this;exact⟨λ_=>this.1,this.2,Nat.le_of_eq this.1⟩
def Uk(r m:Mv):Int:=GK m.t m.x m.y r.t r.x r.y
def Qn(W H:Int)(m:Mv)(i:Nat):Int:=GR m.t m.x m.y (BO W H i) (BP W H i) (BT W H i)
def imC(W H:Int)(m:Mv)(i:Nat):Cl:=⟨keep (Qn W H m i) (Jo m.t m.x m.y (BO W H i) (BP W H i)),keep (Qn W H m i) (KP m.t m.x m.y (BO W H i) (BP W H i)),keep (Qn W H m i) (JO m.t (BT W H i))⟩
def IJ(p:Pt)(r:Mv)(i:Nat):Int:=if Uk r ((AY p).getD i AE.d)=0 then Qn p.W p.H (GG ((AY p).getD i AE.d) r) i else Uk r ((AY p).getD i AE.d)
def CE(p:Pt)(r:Mv):Int:=if BF p=0 then(if DA r.t r.x r.y=0 then(if HX p=0 then KW (IJ p r) (AY p).length 0 else HX p)else 1)else BF p
def BL(p:Pt)(r:Mv):List Mv:=if CE p r=0 then(AY p).map λm=>GG m r else []
def Bo(p:Pt)(r:Mv):List Cl:=if CE p r=0 then(List.range (AY p).length).map λi=>imC p.W p.H (GG ((AY p).getD i AE.d) r) i else []
def JJ(p:Pt)(r:Mv)(j:Nat):Mv:=GG ((AY p).getD j AE.d) r
def VE(p:Pt)(r:Mv)(j:Nat):Cl:=imC p.W p.H (JJ p r j) j
theorem RW{p:Pt}{r:Mv}(h:CE p r=0):(BL p r).length=(AY p).length/\∀j,j<(AY p).length->(BL p r).getD j AE.d=JJ p r j:=by unfold BL;rw[Ih h];refine⟨Dm,λj a=> ?_⟩;simp[a,JJ]
theorem YD{p:Pt}{r:Mv}(h:CE p r=0):(Bo p r).length=(AY p).length/\∀j,j<(AY p).length->(Bo p r).getD j CO.d=VE p r j:=by unfold Bo;rw[Ih h];refine⟨Dm,λj a=> ?_⟩;simp[a,VE,JJ]
theorem b1v{p:Pt}{r:Mv}(h:CE p r≠0):BL p r=[]/\Bo p r=[]:=by unfold BL Bo;rw[Ii h,Ii h];exact⟨rfl,rfl⟩
theorem HA(p:Pt):(⟨p.W,p.H,ED p.l.length (DS p.l)⟩:Pt)=p:=by rw[CL]
def Ms(r:Mv):SV:=.agg [.int .u8 r.t,.int .i64 r.x,.int .i64 r.y]
def TR:AK
 | [x,.agg [.int .u8 t,.int .i64 a,.int .i64 b]]=>match Np x with
   |some (q,p)=>some ((q/\∀c∈p.l,AD .u8 c.e)/\0<=t/\t<=255,.tup [.sl 3 (BL p ⟨t,a,b⟩).length (AE.row (BL p ⟨t,a,b⟩)) none,.sl 3 (Bo p ⟨t,a,b⟩).length (CO.row (Bo p ⟨t,a,b⟩)) none,.int .i64 (CE p ⟨t,a,b⟩)])
   |none=>none
 |_=>none
def FBoth:Fam:=⟨Pt×Mv,λ(p,r)=>[IG p,Ms r],λ(p,r)=>(p.l.length<=100000/\∀c∈p.l,AD .u8 c.e)/\0<=r.t/\r.t<=255,λ(p,r)=>.tup [.sl 3 (BL p r).length (AE.row (BL p r)) none,.sl 3 (Bo p r).length (CO.row (Bo p r)) none,.int .i64 (CE p r)]⟩
def IBoth:Pt×Mv->Nat->Option Inv
 |(p,r),11=>some {β:=Nat,ok:=λi=>i<=(AY p).length/\KW (IJ p r) (AY p).length 0=KW (IJ p r) ((AY p).length-i) i,st:=λi=>⟨[⟨36,none,.int .i64 i⟩,⟨35,none,.int .i64 (AY p).length⟩,⟨34,none,.osl 2⟩,⟨10,none,.osl 3⟩,⟨8,none,.osl 2⟩,⟨6,none,.int .i64 0⟩,⟨5,none,.con (.slice none 0 0)⟩,⟨4,none,.con (.slice none 0 0)⟩,⟨3,none,.own 1 0⟩,⟨2,none,.own 0 0⟩],[.cells 26 [.int .i64 p.W,.int .i64 p.H,.sl 3 p.l.length (DS p.l) none],.cells 28 [.int .u8 r.t,.int .i64 r.x,.int .i64 r.y],.row 28 3 (AY p).length (λj=>AE.sv (upto (JJ p r) (λj=>(AY p).getD j AE.d) i j)) none,.row 47 3 (AY p).length (λj=>CO.sv (upto (VE p r) (λ_=>CO.d) i j)) none]⟩,μ:=λi=>(AY p).length-i}
 |_,_=>none
theorem f2k:PS 72 TR:=by
 refine NH {l:=[(102,Wg),(19,PB),(104,UG),(90,Tk),(105,Tm)],h:=[(103,hRel)]} ⟨by simpa using⟨d14,Se,b1u,f54,b4i⟩,Dm,by simpa using pRel⟩ FBoth IBoth TR ?_ ?_ Tryz.func72 Dk Dk Dk ?_
 .intro args pre s h f;unfold TR at h;split at h
  .rename_i x t a b;split at h
   .rename_i q p hx;cases h;exact⟨(p,⟨t,a,b⟩),⟨(Oq hx f.1.1).1,G5,Im⟩,⟨⟨(Oq hx f.1.1).2,f.1.2⟩,f.2⟩,rfl⟩
   .cases h
  .cases h
 .exact Bt
 .rintro⟨p,r⟩ f;replace f:(p.l.length<=100000/\∀c∈p.l,AD .u8 c.e)/\0<=r.t/\r.t<=255:=f;have C:BF p≠0->CE p r=BF p:=λh=>by unfold CE;rw[if_neg h]
  have E:BF p=0->DA r.t r.x r.y≠0->CE p r=1:=λh g=>by unfold CE;rw[if_pos h,if_neg g]
  have F:BF p=0->DA r.t r.x r.y=0->HX p≠0->CE p r=HX p:=λh g u=>by unfold CE;rw[if_pos h,if_pos g,if_neg u]
  have G:BF p=0->DA r.t r.x r.y=0->HX p=0->CE p r=KW (IJ p r) (AY p).length 0:=λh g u=>by unfold CE;rw[if_pos h,if_pos g,if_pos u]
  have b5:CE p r≠0->(BL p r).length=0/\(Bo p r).length=0:=λh=>by rw[(b1v h).1,(b1v h).2];exact⟨rfl,rfl⟩
  have v:=b8y p;refine X0 _ ?_;(repeat' first|constructor|intro h)<;>refine Lm ?_
  all_goals(try simp only[CL]at*)
  all_goals(first
   |exact⟨⟨EY _,f.1.1⟩,f.1.2⟩
   |exact f.2
   |(have o:BF p=0:=by simpa using ‹(!decide (BF p=0))=false›
     exact⟨⟨EY _,f.1.1⟩,f.1.2,o⟩)
   |(fail_if_success (with_reducible refine Exists.intro ?_ ?_)
     have h1:=b5;have N:=C;have O:=E;have P:=F;clear C E F G b5 v;simp only[Hw,I0]at*;first
     |(have e:=N Dp;first|exact Bk)
     |(have e:=O Dp Dp;first|exact(h1 (by rw[e];decide)).1|exact(h1 (by rw[e];decide)).2|exact e.symm)
     |(have e:=P Dp Dp Dp;first|exact Bk))
   |skip)
  all_goals(
   have o:BF p=0:=Jw (by simpa using ‹(!decide (BF ⟨p.W,p.H,p.l⟩=0))=false›);have Q:DA r.t r.x r.y=0:=Jw (by simpa using ‹(!decide (DA r.t r.x r.y=0))=false›);have e2:HX p=0:=Jw (by simpa using ‹(!decide (HX ⟨p.W,p.H,p.l⟩=0))=false›);have hs:=(FQ o).1;obtain⟨n1,n2,n3⟩:=b2a hs;have B:=v.1 e2;have I:=G o Q e2)
  .have:(AY ⟨p.W,p.H,p.l⟩).length=FB p:=B;refine⟨Dj,Dj,Qg Dk Dj Dj,Dj⟩
  refine⟨(0:Nat),⟨Ix _,rfl⟩,?_,?_⟩
  .refine X0 _ ?_;(repeat' first|constructor|intro h)<;>refine Lm ?_
   all_goals(first
    |exact A8
    |(intro j k;show _=AE.sv (upto _ _ 0 j);rw[b5n];rfl)
    |(intro j k;show _=CO.sv (upto _ _ 0 j);rw[b5n];rfl)
    |skip)
  .intro i n;replace n:i<=(AY p).length/\KW (IJ p r) (AY p).length 0=KW (IJ p r) ((AY p).length-i) i:=n;have J:0<=((AY p).getD i AE.d).t/\((AY p).getD i AE.d).t<=255:=by
    rw[If];cases hg:(AY p)[i]? with
    |none=>decide
    |some m=>exact v.2.1 m (Ik hg)
   have K:=c4n (x:=((AY p).getD i AE.d).x) (y:=((AY p).getD i AE.d).y) (z:=r.x) (w:=r.y) J.1 f.2.1;have rd:=Rt p.W p.H i;have L:i<(AY p).length->IJ p r i≠0->CE p r=IJ p r i:=λh g=>by rw[I,n.2,show (AY p).length-i=((AY p).length-(i+1))+1 from Dj];simp only[KW];rw[Ii g]
   have R:i<(AY p).length->IJ p r i=0->KW (IJ p r) (AY p).length 0=KW (IJ p r) ((AY p).length-(i+1)) (i+1):=λh g=>by rw[n.2,show (AY p).length-i=((AY p).length-(i+1))+1 from Dj];simp only[KW];rw[Ih g]
   have S:¬i<(AY p).length->CE p r=0:=λh=>by rw[I,n.2,show (AY p).length-i=0 from Dj];rfl
   have T:Uk r ((AY p).getD i AE.d)≠0->IJ p r i=Uk r ((AY p).getD i AE.d):=λh=>by unfold IJ;rw[if_neg h]
   have M:Uk r ((AY p).getD i AE.d)=0->IJ p r i=Qn p.W p.H (JJ p r i) i:=λh=>by unfold IJ;rw[if_pos h];rfl
   refine X0 _ ?_;(repeat' first|constructor|intro h)<;>refine Lm ?_
   all_goals(try simp only[Hv,b9g _ _ (Ir i),decide_true,M4,Hw]at*)
   all_goals(try(replace b6:i<(AY p).length:=Dj))
   all_goals(first
    |omega
    |exact⟨J,f.2⟩
    |exact⟨K.1,K.2,rd.1⟩
    |exact A4
    |(show i<(AY p).length;omega)
    |(have e:=T Dp
      have e2:=L Dj (by rw[e];assumption);first
      |exact Bf)
    |(have e:=M Dp
      have e2:=L Dj (by rw[e];assumption);first
      |exact Bf)
    |(have e:=M Dp
      refine⟨i+1,⟨Dj,R Dj (by rw[e];assumption)⟩,Dj,?_⟩)
    |(have e:=S Dj
      first
      |exact e.symm
      |exact(RW e).1.symm
      |exact(YD e).1.symm
      |(intro j k;show AE.sv _=AE.sv _;rw[Xv _ _ Dj,(RW e).2 j Dj])
      |(intro j k;show CO.sv _=CO.sv _;rw[Xv _ _ Dj,(YD e).2 j Dj]))
    |skip)
   all_goals refine X0 _ ?_;(repeat' first|constructor|intro h)<;>refine Lm ?_
   all_goals(try simp only[]at*)
   all_goals(first
    |exact An
    |(intro j k;exact b5f AE (λ_ _=>rfl) (λ_ _=>rfl) (JJ p r) _ i j)
    |(intro j k;exact b5f CO (λ_ _=>rfl) (λ_ _=>rfl) (VE p r) _ i j)
    |skip)
def AH(W H i:Int):Cl:=⟨BO W H i,BP W H i,BT W H i⟩
theorem HE{W H:Int}(h:AM W H=0):1<=W/\1<=H/\W<=256/\H<=256/\W*H<=256:=by
 unfold AM at h;split at h
 .assumption
 .cases h
theorem ce_ok{W H i:Int}(hs:AM W H=0)(a:0<=i)(h:i<4*W*H):JP W H i=0:=by simp[JP,hs,RC,a,h]
theorem IK{W H i:Int}(hs:AM W H=0)(a:0<=i)(h:i<4*W*H):AH W H i=⟨i/4%W,i/4/W,i%4⟩:=by have e:=ce_ok hs a h;simp[AH,BO,BP,BT,e]
theorem IH{W H i:Int}(hs:AM W H=0)(a:0<=i)(h:i<4*W*H):
 (0<=(AH W H i).x/\(AH W H i).x<W)/\(0<=(AH W H i).y/\(AH W H i).y<H)/\(0<=(AH W H i).q/\(AH W H i).q<=3)/\i=4*((AH W H i).y*W+(AH W H i).x)+(AH W H i).q:=by
 have hw:=HE hs;rw[IK hs a h];simp only;have a1:=M7 (i/4) (show W≠0 from Dj);have a2:=M0 (i/4) (show 0<W from Dj);have a3:0<=i/4/W:=Int.ediv_nonneg Dj Dj;have a4:i/4/W<H:=by
  apply Int.ediv_lt_of_lt_mul Dj;have:4*W*H=4*(H*W):=by rw[Kz,Int.mul_comm W H]
  omega
 have a5:=Lj (i/4) W;have a6:i/4/W*W=W*(i/4/W):=Int.mul_comm _ _;omega
theorem f6t{W H x y q:Int}(hs:AM W H=0)(hx:0<=x/\x<W)(c:0<=y/\y<H)(hq:0<=q/\q<=3):0<=4*(y*W+x)+q/\4*(y*W+x)+q<4*W*H/\AH W H (4*(y*W+x)+q)=⟨x,y,q⟩:=by
 have hw:=HE hs;have b0:0<=y*W:=Int.mul_nonneg c.1 Dj;have b1:y*W+x<W*H:=by have:(y+1)*W<=H*W:=Int.mul_le_mul_of_nonneg_right Dj Dj;rw[Int.add_mul,Int.one_mul,Int.mul_comm H W]at this;omega
 have b2:4*W*H=4*(W*H):=Kz _ _ _;have a:0<=4*(y*W+x)+q:=Dj;have b:4*(y*W+x)+q<4*W*H:=Dj;refine⟨a,b,?_⟩;rw[IK hs a b];have d:(4*(y*W+x)+q)/4=y*W+x:=Dj;rw[d];refine Cl.ext' ?_ ?_ ?_
 .show (y*W+x)%W=x;rw[Int.add_comm,Int.add_mul_emod_self_right];exact Int.emod_eq_of_lt hx.1 hx.2
 .show (y*W+x)/W=y;rw[Int.add_comm,Int.add_mul_ediv_right _ _ Dj,Int.ediv_eq_zero_of_lt hx.1 hx.2];omega
 .show (4*(y*W+x)+q)%4=q;omega
theorem LQ{c:Cl}{e:Int}(a:0<=c.q/\c.q<=3)(b:0<=e/\e<3):(c.x-1<=(AP c e).x/\(AP c e).x<=c.x+1)/\(c.y-1<=(AP c e).y/\(AP c e).y<=c.y+1)/\(0<=(AP c e).q/\(AP c e).q<=3):=by obtain⟨X,Y,Q⟩:=c;simp only at a;rcases EJ a with rfl|rfl|rfl|rfl<;>rcases GN b with rfl|rfl|rfl<;>(simp[AP,DR,DU,DW,tb];try omega)
theorem Tz{c:Cl}{e:Int}(a:0<=c.q/\c.q<=3)(b:0<=e/\e<3):AP (AP c e) e=c:=by obtain⟨X,Y,Q⟩:=c;simp only at a;rcases EJ a with rfl|rfl|rfl|rfl<;>rcases GN b with rfl|rfl|rfl<;>(simp[AP,DR,DU,DW,tb];try omega)
theorem f20{W H i e:Int}(hs:AM W H=0)(a:0<=i)(h:i<4*W*H)(b:0<=e/\e<3):FO (AH W H i).x (AH W H i).y (AH W H i).q e=0:=by have hw:=HE hs;have c:=IH hs a h;have d:=LQ c.2.2.1 b;simp only[AP]at d;unfold FO;rw[Ih ⟨G6,Dj⟩,Ih];unfold EH;rw[Ih];omega
theorem UW{W H i e:Int}(hs:AM W H=0)(b:0<=i)(h:i<4*W*H)(d:0<=e/\e<3):
 (AQ W H i e=0↔(0<=(AP (AH W H i) e).x/\(AP (AH W H i) e).x<W)/\0<=(AP (AH W H i) e).y/\(AP (AH W H i) e).y<H)/\
 (AQ W H i e=0->AF W H i e=4*((AP (AH W H i) e).y*W+(AP (AH W H i) e).x)+(AP (AH W H i) e).q):=by
 have hw:=HE hs;have l:=IH hs b h;have hb:=LQ l.2.2.1 d;have f:=ce_ok hs b h;have m:=f20 hs b h d;have a:FO (BO W H i) (BP W H i) (BT W H i) e=0:=m;have g:ID (BO W H i) (BP W H i) (BT W H i) e=(AP (AH W H i) e).x:=by simp[ID,a,AP,AH]
 have j:IF (BO W H i) (BP W H i) (BT W H i) e=(AP (AH W H i) e).y:=by simp[IF,a,AP,AH]
 have k:HH (BO W H i) (BP W H i) (BT W H i) e=(AP (AH W H i) e).q:=by simp[HH,a,AP,AH]
 have n:AQ W H i e=KN W H (AP (AH W H i) e).x (AP (AH W H i) e).y (AP (AH W H i) e).q:=by simp[AQ,f,a,g,j,k]
 have o:AF W H i e=Ot W H (AP (AH W H i) e).x (AP (AH W H i) e).y (AP (AH W H i) e).q:=by simp[AF,f,a,g,j,k]
 rw[n,o];have r:EH (AP (AH W H i) e).x (AP (AH W H i) e).y (AP (AH W H i) e).q=0:=G6;refine⟨?_,λh=>by simp[Ot,h]⟩;unfold KN;rw[Ih hs];constructor
 .intro h;split at h
  .rename_i c;exact⟨⟨c.2.1,c.2.2.1⟩,c.2.2.2⟩
  .cases h
 .intro h;rw[Ih ⟨r,h.1.1,h.1.2,h.2⟩]
theorem FT{W H i e:Int}(hs:AM W H=0)(b:0<=i)(h:i<4*W*H)(c:0<=e/\e<3)(d:AQ W H i e=0):
 (0<=AF W H i e/\AF W H i e<4*W*H)/\AH W H (AF W H i e)=AP (AH W H i) e:=by
 have j:=IH hs b h;have k:=LQ j.2.2.1 c;have f:=UW hs b h c;have g:=f.1.1 d;have a:=f6t hs g.1 g.2 k.2.2;rw[f.2 d];exact⟨⟨a.1,a.2.1⟩,a.2.2⟩
theorem Pc{W H i e:Int}(hs:AM W H=0)(d:0<=i)(h:i<4*W*H)(b:0<=e/\e<3)(g:AQ W H i e=0):
 AQ W H (AF W H i e) e=0/\AF W H (AF W H i e) e=i:=by
 have a:=IH hs d h;obtain⟨⟨j,k⟩,l⟩:=FT hs d h b g;have c:=UW hs j k b;rw[l,Tz a.2.2.1 b]at c;have f:AQ W H (AF W H i e) e=0:=c.1.2 ⟨a.1,a.2.1⟩;exact⟨f,by rw[c.2 f];exact a.2.2.2.symm⟩
theorem c0m{W H i e:Int}(hs:AM W H=0)(b:0<=i)(h:i<4*W*H)(c:0<=e/\e<3)(a:AQ W H i e=0):DJ W H (AF W H i e) e=DJ W H i e:=by obtain⟨d,f⟩:=Pc hs b h c a;simp[DJ,DT,ER,a,d,f,Int.min_comm]
theorem d1u{c:Cl}{e:Int}(a:0<=c.q/\c.q<=3)(b:0<=e/\e<3):CM (AP c e).q e=CM c.q e/\CY (AP c e).x (AP c e).y (AP c e).q e=CY c.x c.y c.q e:=by obtain⟨X,Y,Q⟩:=c;simp only at a;rcases EJ a with rfl|rfl|rfl|rfl<;>rcases GN b with rfl|rfl|rfl<;>(simp[AP,DR,DU,DW,tb,CM,CY,HU,JL];try omega)
theorem sl_eq{W H i e:Int}(hs:AM W H=0)(b:0<=i)(h:i<4*W*H)(f:0<=e/\e<3)(g:AQ W H i e=0)(j:DT W H i e=i):
 Sb W H i e=CM (AH W H i).q e/\TG W H i e=CY (AH W H i).x (AH W H i).y (AH W H i).q e:=by
 have hw:=HE hs;have a:=IH hs b h;have c:ON W H i e=0:=by simp[ON,hs,g,j,ER]
 have d:=IK hs b h;have k:SW W H i e=0:=by simp only[SW,c,Jv,MC];rw[d]at a;simp only at a;unfold Pu;rw[Ih ⟨G6,Dj⟩,Ih];unfold FE;rw[Ih];have l:=EJ a.2.2.1;rcases l with q|q|q|q<;>rcases GN f with rfl|rfl|rfl<;>(rw[q];simp[CM,CY,HU,JL,tb];omega)
 rw[d];simp[Sb,TG,c,k,keep]
theorem b23{W H i e:Int}{has:List Int->Bool}{m:Mv}(hs:AM W H=0)(d:0<=i)(h:i<4*W*H)(b:0<=e/\e<3)(a:AQ W H i e=0):
 HJ W H has m i e=bif has (DJ W H i e)then GG (EG (CM (AH W H i).q e) (CY (AH W H i).x (AH W H i).y (AH W H i).q e)) m else m:=by
 have k:=IH hs d h;obtain⟨⟨l,n⟩,o⟩:=FT hs d h b a;obtain⟨g,p⟩:=Pc hs d h b a;have j:=d1u k.2.2.1 b;have r:ER W H i e=e:=by simp[ER,a]
 have c:Sb W H (DT W H i e) e=CM (AH W H i).q e/\TG W H (DT W H i e) e=CY (AH W H i).x (AH W H i).y (AH W H i).q e:=by
  by_cases hl:i<=AF W H i e
  .have f:DT W H i e=i:=by simp only[DT,a,Jv];omega
   rw[f];exact sl_eq hs d h b a f
  .have f:DT W H i e=AF W H i e:=by simp only[DT,a,Jv];omega
   have s:DT W H (AF W H i e) e=AF W H i e:=by simp only[DT,g,Jv,p];omega
   rw[f];have:=sl_eq hs l n b g s;rw[o]at this;rw[this.1,this.2,j.1,j.2];exact⟨rfl,rfl⟩
 unfold HJ;rw[r,c.1,c.2]
def Fo(m:Mv)(c:Cl)(K:Int):Prop:=(-K<=(DF m c).x/\(DF m c).x<=K)/\ -K<=(DF m c).y/\(DF m c).y<=K
theorem f5g{W H:Int}{c:Cl}(hs:AM W H=0)(hx:0<=c.x/\c.x<W)(hy:0<=c.y/\c.y<H)(hq:0<=c.q/\c.q<=3):vC c:=by have:=HE hs;unfold vC;omega
theorem f05{t a b:Int}(ha: -700<=a/\a<=700)(hb: -700<=b/\b<=700):(-700<=(AL t a b).1/\(AL t a b).1<=700)/\ -700<=(AL t a b).2/\(AL t a b).2<=700:=by
 unfold AL;repeat' split
 all_goals(simp only;omega)
theorem d01{t a b:Int}(h:(a+b)%2=0):((AL t a b).1+(AL t a b).2)%2=0:=by
 unfold AL;repeat' split
 all_goals(simp only;omega)
theorem c59{m:Mv}{c:Cl}{K:Int}(b:vM m)(hc:(0<=c.x/\c.x<=300)/\(0<=c.y/\c.y<=300)/\0<=c.q/\c.q<=3)(a:Fo m c K)(hK:0<=K/\K<=2000):(-2400<=m.x/\m.x<=2400)/\ -2400<=m.y/\m.y<=2400:=by unfold Fo at a;rw[HY b Dj]at a;simp only at a;rcases FC b with e|e|e|e|e|e|e|e<;>simp only[sq,e]at a<;>simp at a<;>omega
theorem c15{m:Mv}{c:Cl}{e K:Int}(i:0<=e/\e<3)(j:(0<=c.x/\c.x<=300)/\(0<=c.y/\c.y<=300)/\0<=c.q/\c.q<=3)(a:vM m)(v:Fo m c K)(w:0<=K/\K<=2000):
 vM (GG (EG (CM c.q e) (CY c.x c.y c.q e)) m)/\DF (GG (EG (CM c.q e) (CY c.x c.y c.q e)) m) (AP c e)=DF m c/\DF (GG (EG (CM c.q e) (CY c.x c.y c.q e)) m) c=DF m (AP c e):=by
 obtain⟨f,k,l,n⟩:=@b77 c e i Dj;generalize EG (CM c.q e) (CY c.x c.y c.q e)=r at*;have hb:=LQ j.2.2 i;have mv:=c59 a j v w;have o:=@b3g m.t r.x r.y (FC a);have Zs:=@f05 m.t r.x r.y n.1 n.2;have hlp:=@d01 m.t r.x r.y (OH f).2.2;have c7:=(OH a).2.2;have g:GK r.t r.x r.y m.t m.x m.y=0:=by unfold GK;rw[Ih ⟨f.2,a.2⟩,o.1,o.2];unfold KZ;rw[Ih];unfold DA;rw[Ih];refine⟨?_,Dj,Dj,Dj,Dj,Dj⟩;rw[f3w (FC f) (FC a)];rcases FC f with b|b|b|b|b|b|b|b<;>rcases FC a with d|d|d|d|d|d|d|d<;>rw[b,d]<;>decide
 have s:vC c:=Fg;have u:vC (AP c e):=Fg;refine⟨(UQ f.1 a.1 g).2.2.2,?_,?_⟩
 .rw[b85 f.1 a.1 g u (by rw[l];exact s),l]
 .rw[b85 f.1 a.1 g s (by rw[k];exact u),k]
theorem c5g{m:Mv}{c:Cl}{e K:Int}(d:0<=e/\e<3)(f:(0<=c.x/\c.x<=300)/\(0<=c.y/\c.y<=300)/\0<=c.q/\c.q<=3)(b:vM m)(a:Fo m c K):Fo m (AP c e) (K+1):=by have hb:=LQ f.2.2 d;unfold Fo at*;rw[HY b Dj]at a⊢;simp only at a⊢;rcases FC b with e|e|e|e|e|e|e|e<;>simp only[sq,e]at a⊢ <;>simp at a⊢ <;>omega
theorem MG{α:Type}{T:List α}{i j:Nat}{x d:α}(h:i<T.length):(T.set i x).getD j d=if j=i then x else T.getD j d:=by
 by_cases e:j=i
 .subst e;simp[h]
 .simp[Iw (Ne.symm e),e]
theorem WV:∀l:List Bool,l.count true+l.count false=l.length
 | []=>rfl
 |a::r=>by have:=WV r;cases a<;>simp<;>omega
section
variable{W H:Int}{has:List Int->Bool}
def AG(W H:Int):Nat:=(4*W*H).toNat
theorem DB(hs:AM W H=0):(AG W H:Int)=4*W*H/\AG W H<=1024/\4<=AG W H:=by have h:=HE hs;have e:4*W*H=4*(W*H):=Kz _ _ _;have:0<W*H:=Int.mul_pos Dj Dj;unfold AG;omega
def SI(W H:Int)(has:List Int->Bool)(s:BS)(i e:Int):Prop:=
 AQ W H i e=0->s.kn.getD (AF W H i e).toNat false=true/\s.out.getD (AF W H i e).toNat AE.d=HJ W H has (s.out.getD i.toNat AE.d) i e
structure More (s s':BS):Prop where
 kn:∀j:Nat,s.kn.getD j false=true->s'.kn.getD j false=true/\s'.out.getD j AE.d=s.out.getD j AE.d
 wt:∀i∈s.wt,i∈s'.wt
 new:∀j:Nat,s'.kn.getD j false=true->s.kn.getD j false=true\/(j:Int)∈s'.wt
theorem More.refl(s:BS):More s s:=⟨λ_ h=>⟨h,rfl⟩,λ_ h=>h,λ_ h=>.inl h⟩
theorem More.trans{a b c:BS}(h:More a b)(k:More b c):More a c:=
 ⟨λj d=>⟨(k.kn j (h.kn j d).1).1,(k.kn j (h.kn j d).1).2.trans (h.kn j d).2⟩,λi g=>k.wt i (h.wt i g),λj d=>by
   rcases k.new j d with e|e
   .rcases h.new j e with f|f
    .exact .inl f
    .exact .inr (k.wt _ f)
   .exact .inr e⟩
theorem SI.more{s c:BS}{i e:Int}(_:0<=i)(d:s.kn.getD i.toNat false=true)(h:SI W H has s i e)(m:More s c):SI W H has c i e:=by intro f;obtain⟨g,j⟩:=h f;have a:=m.kn _ g;have b:=m.kn _ d;exact⟨a.1,by rw[a.2,b.2,j]⟩
structure BI (W H:Int) (s:BS):Prop where
 ol:s.out.length=AG W H
 kl:s.kn.length=AG W H
 wt:∀i∈s.wt,(0<=i/\i<4*W*H)/\s.kn.getD i.toNat false=true
 kn:∀j:Nat,s.kn.getD j false=true->vM (s.out.getD j AE.d)/\Fo (s.out.getD j AE.d) (AH W H j) (s.kn.count true)
theorem BI.lt{s:BS}(h:BI W H s){j:Nat}(a:s.kn.getD j false=true):j<AG W H:=by rw[<-h.kl];apply Classical.byContradiction;intro hc;rw[If,Km Dj]at a;cases a
theorem b8g{m:Mv}{c:Cl}{K L:Int}(h:Fo m c K)(hl:K<=L):Fo m c L:=by unfold Fo at*;omega
theorem OY{i:Int}(hs:AM W H=0)(a:0<=i)(h:i<4*W*H):(0<=(AH W H i).x/\(AH W H i).x<=300)/\(0<=(AH W H i).y/\(AH W H i).y<=300)/\0<=(AH W H i).q/\(AH W H i).q<=3:=by have:=IH hs a h;have:=HE hs;omega
theorem b6v{s f:BS}{i e:Int}(hs:AM W H=0)(h:BI W H s)(r:0<=i)(hi:i<4*W*H)(t:s.kn.getD i.toNat false=true)(g:0<=e/\e<3)(b:JZ W H has s i e=some f):
 BI W H f/\More s f/\SI W H has f i e:=by
 unfold JZ at b;split at b;rotate_left
 .rename_i k;cases b;exact⟨h,.refl _,λe=>absurd e k⟩
 rename_i k;obtain⟨⟨z,A⟩,B⟩:=FT hs r hi g k;have hN:=DB hs;have gq:(AF W H i e).toNat<AG W H:=Dj;have w:=OY hs r hi;simp only at b;by_cases u:s.kn.getD (AF W H i e).toNat false=true
 .rw[u]at b;simp only[M4]at b;split at b
  .rename_i C;cases b;exact⟨h,.refl _,λ_=>⟨u,C⟩⟩
  .cases b
 .have o:s.kn.getD (AF W H i e).toNat false=false:=by simpa using u
  rw[o]at b;simp only[cond_false]at b;rw[Ih (by rw[MG Fh,Ih rfl])]at b;cases b;have E:i.toNat≠(AF W H i e).toNat:=λv=>by rw[v,o]at t;cases t
  have F:(s.kn.set (AF W H i e).toNat true).count true=s.kn.count true+1:=by have c1:=b29 (l:=s.kn) (n:=(AF W H i e).toNat) Es o;have c2:=WV s.kn;have G:=WV (s.kn.set (AF W H i e).toNat true);rw[K4]at G;omega
  have hcN:s.kn.count true<=1024:=by have:=WV s.kn;have:=h.kl;omega
  obtain⟨vm,q⟩:=h.kn _ t;rw[show ((i.toNat:Nat):Int)=i from Dj]at q;have x:=b23 (has:=has) (m:=s.out.getD i.toNat AE.d) hs r hi g k;have y:vM (HJ W H has (s.out.getD i.toNat AE.d) i e)/\Fo (HJ W H has (s.out.getD i.toNat AE.d) i e) (AH W H (AF W H i e)) (s.kn.count true+1):=by
   rw[B];cases hc:has (DJ W H i e)with
   |false=>
    rw[x,hc];exact⟨vm,c5g g w vm q⟩
   |true=>
    rw[x,hc];simp only[M4];obtain⟨g1,I,_⟩:=c15 g w vm q Dj;refine⟨g1,?_⟩;unfold Fo at q⊢;rw[I];omega
  refine⟨⟨by simpa using h.ol,by simpa using h.kl,λj a=> ?_,λj a=> ?_⟩,⟨λj a=> ?_,λj a=>List.mem_append_left _ a,λj a=> ?_⟩,λ_=>⟨?_,?_⟩⟩
  .rcases Jd.1 a with a|a
   .refine⟨(h.wt j a).1,?_⟩;rw[MG Es];split
    .rfl
    .exact(h.wt j a).2
   .rw[J6.1 a];refine⟨⟨z,A⟩,?_⟩;rw[MG Es,Ih rfl]
  .rw[MG Es]at a;rw[MG Fh,F];by_cases c:j=(AF W H i e).toNat
   .rw[Ih c,show (j:Int)=AF W H i e from Dj];exact⟨y.1,b8g y.2 Dj⟩
   .rw[Ii c]at a⊢;exact⟨(h.kn j a).1,b8g (h.kn j a).2 Dj⟩
  .have c:j≠(AF W H i e).toNat:=λv=>by rw[v,o]at a;cases a
   rw[MG Es,Ii c,MG Fh,Ii c];exact⟨a,rfl⟩
  .rw[MG Es]at a;by_cases c:j=(AF W H i e).toNat
   .exact .inr (List.mem_append_right _ (J6.2 Dj))
   .rw[Ii c]at a;exact .inl a
  .rw[MG Es,Ih rfl]
  .rw[MG Fh,Ih rfl,MG Fh,Ii E]
theorem b2p{i:Int}(hs:AM W H=0)(c:0<=i)(hi:i<4*W*H):∀(l:List Int) {s a:BS},(∀e∈l,0<=e/\e<3)->BI W H s->s.kn.getD i.toNat false=true->LH W H has i l s=some a->
 BI W H a/\More s a/\∀e∈l,SI W H has a i e
 | [],s,a,_,h,_,b=>by cases b;exact⟨h,.refl _,λ_ d=>by cases d⟩
 |e::l,s,a,k,h,f,b=>by
  simp only[LH,Ip]at b;obtain⟨s1,n,o⟩:=b;obtain⟨q,g,r⟩:=b6v hs h c hi f (k e Dm) n;obtain⟨t,m,u⟩:=b2p hs c hi l (λe d=>k e (by simp[d])) q (g.kn _ f).1 o;refine⟨t,g.trans m,λv j=> ?_⟩;rcases Iv.1 j with rfl|j
  .exact r.more c (g.kn _ f).1 m
  .exact u v j
def UH(W H:Int)(has:List Int->Bool)(s:BS):Prop:=∀j:Nat,s.kn.getD j false=true->(j:Int)∈s.wt\/∀e,0<=e/\e<3->SI W H has s j e
theorem b9h(hs:AM W H=0):∀(f:Nat) {s:BS} {l:List Mv},BI W H s->UH W H has s->HM W H has f s=some l->∃b,b.out=l/\BI W H b/\b.wt=[]/\UH W H has b/\∀j:Nat,s.kn.getD j false=true->b.kn.getD j false=true/\b.out.getD j AE.d=s.out.getD j AE.d
 |0,s,l,h,m,a=>by
  unfold HM at a;split at a
  .rename_i e;cases a;exact⟨s,rfl,h,e,m,λ_ h=>⟨h,rfl⟩⟩
  .cases a
 |f+1,s,l,h,m,a=>by
  cases hw:s.wt with
  |nil=>
   rw[b99 hw]at a;cases a;exact⟨s,rfl,h,hw,m,λ_ h=>⟨h,rfl⟩⟩
  |cons i r=>
   rw[b7k hw]at a;simp only[Ip]at a;obtain⟨w,x,y⟩:=a;have n:=h.wt i (by rw[hw];simp);have z:BI W H ⟨s.out,s.kn,r⟩:=⟨h.ol,h.kl,λj g=>h.wt j (by rw[hw];exact Je _ g),h.kn⟩
   obtain⟨A,k,o⟩:=b2p hs n.1.1 n.1.2 [0,1,2] Dm z n.2 x;have q:UH W H has w:=by
    intro j g;by_cases u:(j:Int)=i
    .right;rw[u];intro e t;rcases GN t with rfl|rfl|rfl
     .exact o 0 Dm
     .exact o 1 Dm
     .exact o 2 Dm
    .rcases k.new j g with bm|bm
     .rcases m j bm with c|c
      .rw[hw]at c;rcases Iv.1 c with c|c
       .exact absurd c u
       .exact .inl (k.wt _ c)
      .right;intro e t;have:=c e t;exact SI.more (s:=⟨s.out,s.kn,r⟩) Dj Fc this k
     .exact .inl bm
   obtain⟨b,B,C,E,F,v⟩:=b9h hs f A q y;exact⟨b,B,C,E,F,λj g=>⟨(v j (k.kn j g).1).1,(v j (k.kn j g).1).2.trans (k.kn j g).2⟩⟩
theorem b2q{kn:Nat->Bool}(hs:AM W H=0)(step:∀(i:Nat) (e:Int),0<=e/\e<3->kn i=true->AQ W H i e=0->kn (AF W H i e).toNat=true)(z:kn 0=true):∀j:Nat,j<AG W H->kn j=true:=by
 have hN:=DB hs;have OA:∀(j:Nat) (e:Int),j<AG W H->0<=e/\e<3->AQ W H j e=0->kn (AF W H j e).toNat=true->kn j=true:=by intro j e A l a n;obtain⟨⟨n0,n1⟩,_⟩:=FT hs (i:=j) Dj Dj l a;obtain⟨B,C⟩:=Pc hs (i:=j) Dj Dj l a;have:=step (AF W H j e).toNat e l n (by rw[show (((AF W H j e).toNat:Nat):Int)=AF W H j e from Dj];exact B);rw[show (((AF W H j e).toNat:Nat):Int)=AF W H j e from Dj,C]at this;simpa using this
 have o:∀m:Nat,4*m<AG W H->∀q:Nat,q<4->kn (4*m+q)=true:=by
  intro m;induction m using Nat.strongRecOn with
  |ind m x=>
   intro hm;have hw2:=HE hs;have d:∀q:Nat,q<4->(4*m+q:Nat)<AG W H:=λq f=>by
    have:4∣AG W H:=by unfold AG;rw[Kz];have:0<W*H:=Int.mul_pos Dj Dj;exact⟨(W*H).toNat,Dj⟩
    obtain⟨k,n⟩:=this;omega
   have g:∀q:Nat,q<4->AH W H ((4*m+q:Nat):Int)=⟨(m:Int)%W,(m:Int)/W,q⟩:=λq f=>by have:=d q f;rw[IK hs Dj Dj];have c:((4*m+q:Nat):Int)/4=m:=Dj;have t:((4*m+q:Nat):Int)%4=q:=Dj;rw[c,t]
   have a1:=M7 (m:Int) (show W≠0 from Dj);have a2:=M0 (m:Int) (show 0<W from Dj);have a3:0<=(m:Int)/W:=Int.ediv_nonneg Dj Dj;have E:=Lj (m:Int) W;have a6:(m:Int)/W*W=W*((m:Int)/W):=Int.mul_comm _ _;have y:=IH hs (i:=((4*m:Nat):Int)) Dj Dj;have u:=g 0 Dj;rw[L7]at u;rw[u]at y;simp only at y;have one:∃q:Nat,q<4/\kn (4*m+q)=true:=by
    by_cases F:m=0
    .subst F;exact⟨0,Dj,z⟩
    by_cases hx:0<(m:Int)%W
    .refine⟨3,Dj,?_⟩;have b:AQ W H ((4*m+3:Nat):Int) 0=0/\(AF W H ((4*m+3:Nat):Int) 0).toNat=4*(m-1)+1:=by
      have a:=UW hs (i:=((4*m+3:Nat):Int)) (e:=0) Dj (by have:=d 3 Dj;omega) Dj;rw[g 3 Dj]at a;generalize AF W H ((4*m+3:Nat):Int) 0=v at*;generalize AQ W H ((4*m+3:Nat):Int) 0=G at*;simp[AP,DR,DU,DW,tb]at a;have c:=a.1.2 Dj;exact⟨c,by rw[a.2 c];omega⟩
     refine OA (4*m+3) 0 (d 3 Dj) Dj b.1 ?_;rw[b.2];exact x (m-1) Dj Dj 1 Dj
    .refine⟨0,Dj,?_⟩;have hy:0<(m:Int)/W:=by
      rcases Int.lt_or_le 0 ((m:Int)/W)with h|h
      .exact h
      .have:(m:Int)/W=0:=Dj;rw[this]at E;omega
     have hWm:W<=m:=by have:W*1<=W*((m:Int)/W):=Int.mul_le_mul_of_nonneg_left Dj Dj;omega
     have t:(-1+(m:Int)/W)*W=(m:Int)/W*W-W:=by rw[Int.add_mul];omega
     have b:AQ W H ((4*m:Nat):Int) 0=0/\(AF W H ((4*m:Nat):Int) 0).toNat=4*(m-W.toNat)+2:=by have a:=UW hs (i:=((4*m:Nat):Int)) (e:=0) Dj Dj Dj;rw[u]at a;generalize AF W H ((4*m:Nat):Int) 0=v at*;generalize AQ W H ((4*m:Nat):Int) 0=G at*;simp[AP,DR,DU,DW,tb]at a;have c:=a.1.2 Dj;exact⟨c,by rw[a.2 c,t];omega⟩
     refine OA (4*m) 0 Dj Dj b.1 ?_;rw[b.2];exact x (m-W.toNat) Dj Dj 2 Dj
   have w:∀q:Nat,q<4->kn (4*m+q)=true->kn (4*m+(q+1)%4)=true:=by
    intro q f n;have r:∀e:Int,0<=e/\e<3->(AP ⟨(m:Int)%W,(m:Int)/W,q⟩ e=⟨(m:Int)%W,(m:Int)/W,((q+1)%4:Nat)⟩)->kn (4*m+(q+1)%4)=true:=by intro e l I;have a:=UW hs (i:=((4*m+q:Nat):Int)) (e:=e) Dj (by have:=d q f;omega) l;rw[g q f,I]at a;simp only at a;have c:AQ W H ((4*m+q:Nat):Int) e=0:=a.1.2 Dj;have:=step (4*m+q) e l n c;rw[a.2 c]at this;rwa[show (4*((m:Int)/W*W+(m:Int)%W)+(((q+1)%4:Nat):Int)).toNat=4*m+(q+1)%4 from Dj]at this
    rcases(show q=0\/q=1\/q=2\/q=3 from Dj)with rfl|rfl|rfl|rfl
    .exact r 1 Dj G7
    .exact r 2 Dj G7
    .exact r 1 Dj G7
    .exact r 2 Dj G7
   obtain⟨q,f,n⟩:=one;have k1:=w q f n;have k2:=w _ Dj k1;have k3:=w _ Dj k2;intro s dh;rcases(show s=q\/s=(q+1)%4\/s=((q+1)%4+1)%4\/s=(((q+1)%4+1)%4+1)%4 from Dj)with e|e|e|e<;>(rw[e];assumption)
 intro j A;have:=o (j/4) Dj (j%4) Dj;rwa[show 4*(j/4)+j%4=j from Dj]at this
theorem c9m{s:BS}(hs:AM W H=0)(_:BI W H s)(b:s.wt=[])(c:UH W H has s)(d:s.kn.getD 0 false=true):∀j:Nat,j<AG W H->s.kn.getD j false=true:=by
 refine b2q (kn:=λj=>s.kn.getD j false) hs (λi e f g k=> ?_) d;rcases c i g with a|a
 .rw[b]at a;cases a
 .exact(a e f k).1
end
theorem b4k{p:Pt}(hs:AM p.W p.H=0)(h:HX p=0):(AY p).length=AG p.W p.H/\∀i:Nat,i<AG p.W p.H->
 (vM ((AY p).getD i AE.d)/\Fo ((AY p).getD i AE.d) (AH p.W p.H i) 1024)/\∀e:Int,0<=e/\e<3->AQ p.W p.H i e=0->(AY p).getD (AF p.W p.H i e).toNat AE.d=HJ p.W p.H (Dl p.l) ((AY p).getD i AE.d) i e:=by
 have hN:=DB hs;have r:FB p=AG p.W p.H:=rfl;unfold HX at h;cases hr:MB p with
 |none=>rw[hr]at h;cases h
 |some l=>
  have s:AY p=l:=by simp[AY,hr]
  rw[s];unfold MB at hr;rw[r]at hr;have t:BI p.W p.H (EW (AG p.W p.H)):=by
   refine⟨F6,F6,λi b=> ?_,λj k=> ?_⟩
   .have:i=0:=by simpa[EW]using b
    subst this;refine⟨Dj,?_⟩;show ((List.replicate _ false).set 0 true).getD 0 false=true;rw[MZ _ _ Dj];rfl
   .have c:((List.replicate (AG p.W p.H) false).set 0 true).getD j false=true:=k;rw[MZ _ _ Dj]at c;have:j=0:=Jw c;subst this;have v7:1<=(EW (AG p.W p.H)).kn.count true:=by
     have:true∈(EW (AG p.W p.H)).kn:=by show true∈(List.replicate (AG p.W p.H) false).set 0 true;exact List.mem_set Du _
     exact List.count_pos_iff.2 this
    show vM ((List.replicate _ AE.d).getD 0 AE.d)/\Fo ((List.replicate _ AE.d).getD 0 AE.d) _ _;rw[VA];have m:vM AE.d:=⟨Dn,Dn⟩
    refine⟨m,?_⟩;have wr:=IH hs (i:=((0:Nat):Int)) Dj Dj;have hw:=HE hs;unfold Fo;rw[HY m Dj];have u:AH p.W p.H ((0:Nat):Int)=⟨0,0,0⟩:=by rw[IK hs Dj Dj];simp
    rw[u];have d0:AE.d=⟨0,0,0⟩:=rfl;rw[d0];simp[sq];try omega
  have v:UH p.W p.H (Dl p.l) (EW (AG p.W p.H)):=by intro j k;have c:((List.replicate (AG p.W p.H) false).set 0 true).getD j false=true:=k;rw[MZ _ _ Dj]at c;have:j=0:=Jw c;subst this;exact .inl F6
  obtain⟨n,w,f,o,q,x⟩:=b9h hs _ t v hr;have k0:n.kn.getD 0 false=true:=(x 0 (by show ((List.replicate _ false).set 0 true).getD 0 false=true;rw[MZ _ _ Dj];rfl)).1
  have a:=c9m hs f o q k0;rw[<-w];refine⟨f.ol,λi b=>⟨⟨(f.kn i (a i b)).1,b8g (f.kn i (a i b)).2 ?_⟩,λe y z=> ?_⟩⟩
  .have:=WV n.kn;have:=f.kl;omega
  .rcases q i (a i b)with g|g
   .rw[o]at g;cases g
   .have:=(g e y z).2;simpa using this
def Pf:List SV->Option (Prop×Pt×Mv)
 | [x,.agg [.int .u8 t,.int .i64 a,.int .i64 b]]=>(Np x).map λq=>((q.1/\∀c∈q.2.l,AD .u8 c.e)/\0<=t/\t<=255,q.2,⟨t,a,b⟩)
 |_=>none
def EL(p:Pt)(r:Mv):Prop:=(p.l.length<=100000/\∀c∈p.l,AD .u8 c.e)/\0<=r.t/\r.t<=255
theorem b90{l:List SV}{q:Prop}{p:Pt}{r:Mv}(h:Pf l=some (q,p,r))(b:q):BG l [IG p,Ms r]/\EL p r:=by
 unfold Pf at h;split at h
 .simp only[Hx]at h;obtain⟨⟨a,p'⟩,hx,rfl,rfl,rfl⟩:=h;obtain⟨c,d⟩:=Oq hx b.1.1;exact⟨⟨c,G5,Im⟩,⟨d,b.1.2⟩,b.2⟩
 .cases h
theorem f3q{k:AK}{a:Pt->Mv->SV}(b:∀l,k l=(Pf l).map λq=>(q.1,a q.2.1 q.2.2)):Px ⟨Pt×Mv,λ(p,r)=>[IG p,Ms r],λ(p,r)=>EL p r,λ(p,r)=>a p r⟩ k:=by intro args pre s h c;rw[b]at h;simp only[Hx]at h;obtain⟨⟨q,p,r⟩,hx,rfl,rfl⟩:=h;obtain⟨d,e⟩:=b90 hx c;exact⟨(p,r),d,e,rfl⟩
def d1f(p:Pt)(r:Mv):SV:=.tup [.sl 3 (BL p r).length (AE.row (BL p r)) none,.int .i64 (CE p r)]
def c3j:AK:=λl=>(Pf l).map λq=>(q.1,d1f q.2.1 q.2.2)
def f52:Fam:=⟨Pt×Mv,λ(p,r)=>[IG p,Ms r],λ(p,r)=>EL p r,λ(p,r)=>d1f p r⟩
theorem f4k:PS 113 c3j:=by
 refine con [(72,TR)] (by simpa using f2k) f52 (λ_ _=>none) c3j (f3q (λ_=>rfl)) ?_ Tryz.func113 Dk Dk Dk ?_
 .exact Bt
 .rintro⟨p,r⟩ hp;replace hp:EL p r:=hp;exact X0g
def c91(p:Pt)(r:Mv):SV:=.tup [.sl 3 (Bo p r).length (CO.row (Bo p r)) none,.int .i64 (CE p r)]
def Ve:AK:=λl=>(Pf l).map λq=>(q.1,c91 q.2.1 q.2.2)
def f3a:Fam:=⟨Pt×Mv,λ(p,r)=>[IG p,Ms r],λ(p,r)=>EL p r,λ(p,r)=>c91 p r⟩
theorem c2p:PS 33 Ve:=by
 refine con [(72,TR)] (by simpa using f2k) f3a (λ_ _=>none) Ve (f3q (λ_=>rfl)) ?_ Tryz.func33 Dk Dk Dk ?_
 .exact Bt
 .rintro⟨p,r⟩ hp;replace hp:EL p r:=hp;exact X0g
def Sq(m:Mv):Bool:= !(and (decide (DA m.t m.x m.y=0)) (decide (4<=m.t)))
def FW(p:Pt)(r:Mv):List Bool:=(BL p r).map Sq
theorem c0t{p:Pt}{r:Mv}(b:0<=r.t):∀m∈BL p r,0<=m.t/\m.t<=255:=by
 intro m a;unfold BL at a;split at a
 .obtain⟨c,d,rfl⟩:=J4.1 a;exact c4n ((b8y p).2.1 c d).1 b
 .simp at a
theorem c2y{p:Pt}{r:Mv}:(BL p r).length<=1024:=by
 unfold BL;split
 .rename_i h;have hs:BF p=0:=by
   unfold CE at h;split at h
   .assumption
   .rename_i a;exact absurd h a
  have:=(b8y p).2.2;have:=b2a (FQ hs).1;simp only[Jp];omega
 .simp
def rUp(p:Pt)(r:Mv):SV:=.tup [.sl 1 (FW p r).length (FX.row (FW p r)) none,.int .i64 (CE p r)]
def kUp:AK:=λl=>(Pf l).map λq=>(q.1,rUp q.2.1 q.2.2)
def FUp:Fam:=⟨Pt×Mv,λ(p,r)=>[IG p,Ms r],λ(p,r)=>EL p r,λ(p,r)=>rUp p r⟩
def IUp:Pt×Mv->Nat->Option Inv
 |(p,r),6=>some {β:=Nat,ok:=λi=>i<=(BL p r).length,st:=λi=>⟨[⟨27,none,.int .i64 i⟩,⟨26,none,.int .i64 (BL p r).length⟩,⟨25,none,.sl 3 (BL p r).length (AE.row (BL p r)) none⟩,⟨9,none,.osl 2⟩,⟨5,none,.int .i64 0⟩],
    [.cells 26 [.int .i64 p.W,.int .i64 p.H,.sl 3 p.l.length (DS p.l) none],.cells 28 [.int .u8 r.t,.int .i64 r.x,.int .i64 r.y],.row 4 1 (BL p r).length (λj=>FX.sv (upto (λj=>Sq ((BL p r).getD j AE.d)) (λ_=>false) i j)) none]⟩,μ:=λi=>(BL p r).length-i}
 |_,_=>none
theorem pUp:PS 60 kUp:=by
 refine con [(72,TR),(46,c47)] (by simpa using⟨f2k,pFlips⟩) FUp IUp kUp (f3q (λ_=>rfl)) ?_ Tryz.func60 Dk Dk Dk ?_
 .exact Bt
 .rintro⟨p,r⟩ hp;replace hp:EL p r:=hp;have k:=@c2y p r;have m6:(BL ⟨p.W,p.H,p.l⟩ ⟨r.t,r.x,r.y⟩).length<=1024:=k;have m:CE p r≠0->BL p r=[]:=λh=>(b1v h).1;have f:(FW p r).length=(BL p r).length:=by simp[FW]
  have b:∀j,j<(BL p r).length->(FW p r).getD j FX.d=Sq ((BL p r).getD j AE.d):=λj a=>by simp[FW,a]
  refine X0 _ ?_;(repeat' first|constructor|intro h)<;>refine Lm ?_
  all_goals(try simp only[CL]at*)
  all_goals(first
   |exact B5
   |(refine⟨Dj,Dj,Qg Dk Dj Dj,Dj⟩)
   |(rw[f,m (by simpa using ‹(!decide (CE _ _=0))=true›)];rfl)
   |skip)
  refine⟨(0:Nat),Ix _,?_,?_⟩
  .refine X0 _ ?_;(repeat' first|constructor|intro h)<;>refine Lm ?_
   all_goals(first
    |exact A8
    |(intro j a;show _=FX.sv (upto _ _ 0 j);rw[b5n];rfl)
    |skip)
  .intro i g;replace g:i<=(BL p r).length:=g;have n:i<(BL p r).length->0<=((BL p r).getD i AE.d).t/\((BL p r).getD i AE.d).t<=255:=λh=>by
    rw[If,Ig h];exact c0t hp.2.1 _ (Ji h)
   refine X0 _ ?_;(repeat' first|constructor|intro h)<;>refine Lm ?_
   all_goals(try simp only[Hv,b9g _ _ (Ir i),Hw]at*)
   all_goals(first
    |omega
    |exact n Dj
    |exact A4
    |(show i<(BL p r).length;omega)
    |(refine⟨i+1,E1,Dy,?_⟩)
    |(have e:CE p r=0:=by assumption
      exact e.symm)
    |exact f.symm
    |(intro j a;show FX.sv _=FX.sv _;rw[Xv _ _ Dj,b j Dj])
    |skip)
   all_goals refine X0 _ ?_;(repeat' first|constructor|intro h)<;>refine Lm ?_
   all_goals(try simp only[])
   all_goals(first
    |exact An
    |(intro j a;exact b5f FX (λ_ _=>rfl) (λ_ _=>rfl) (λj=>Sq ((BL p r).getD j AE.d)) _ i j)
    |skip)
theorem Ur{p:Pt}{i e:Int}(h:BF p=0)(r:AQ p.W p.H i e=0):Dl p.l (DJ p.W p.H i e)=true↔Al p i e≠0:=by
 obtain⟨hs,s,h1,h2⟩:=FQ h;have t:=b7i h;have u:HP p i e=0:=by simp[HP,h,r]
 have v:KM p i e=KE p.l (DT p.W p.H i e) (ER p.W p.H i e):=by simp[KM,u]
 unfold Al DJ;rw[v];generalize DT p.W p.H i e=a;generalize ER p.W p.H i e=b;constructor
 .intro w;obtain⟨x,hx,y⟩:=J3.1 w;obtain⟨j,hj,rfl⟩:=Jg.1 hx;have g:a=p.l[j].c/\b=p.l[j].e:=by simpa[GF]using y
  have d:p.l.getD j d0=p.l[j]:=Gx;have m:JS (p.l.getD j d0) a b=0:=by
   rw[d];unfold JS;try unfold HZ
   rw[g.1,g.2];simp
  have n:HQ p.l a b=j:=c6h p.l j Dj (λk z=>by have:=t k j z hj;rw[d,<-g.1,<-g.2]at this;exact this) (λ_=>Dj)
  have f:KE p.l a b=true:=by unfold KE;rw[n];rw[d]at m;simp[hj,m]
  rw[f,n];simp only[M4];have:=J5.1 s p.l[j] (Ji hj);rw[d];intro A;simp[MI,PM,A]at this
 .intro q;cases f:KE p.l a b with
  |false=>rw[f]at q;exact absurd rfl q
  |true=>
   unfold KE at f;simp only[I3]at f;have hj:HQ p.l a b<p.l.length:=Dj;have d:p.l.getD (HQ p.l a b) d0=p.l[HQ p.l a b]:=Gx;refine J3.2 ⟨p.l[HQ p.l a b],Ji hj,?_⟩;have o:=f.2;rw[d]at o;have:a=p.l[HQ p.l a b].c/\b=p.l[HQ p.l a b].e:=by
    unfold JS at o;try unfold HZ at o
    split at o<;>omega
   simp[GF,<-this.1,<-this.2]
structure PlOK (p:Pt) (r:Mv):Prop where
 pl:(BL p r).length=AG p.W p.H
 il:(Bo p r).length=AG p.W p.H
 vm:∀i:Nat,i<AG p.W p.H->vM ((BL p r).getD i AE.d)
 im:∀i:Nat,i<AG p.W p.H->(Bo p r).getD i CO.d=DF ((BL p r).getD i AE.d) (AH p.W p.H i)/\vC ((Bo p r).getD i CO.d)
 pass:∀(i:Nat) (e:Int),i<AG p.W p.H->0<=e/\e<3->AQ p.W p.H i e=0->Al p i e=0->(BL p r).getD (AF p.W p.H i e).toNat AE.d=(BL p r).getD i AE.d
 loop:∀(i:Nat) (e:Int),i<AG p.W p.H->0<=e/\e<3->AQ p.W p.H i e=0->Al p i e≠0->
  (Bo p r).getD (AF p.W p.H i e).toNat CO.d=(Bo p r).getD i CO.d/\DF ((BL p r).getD (AF p.W p.H i e).toNat AE.d) (AH p.W p.H i)=DF ((BL p r).getD i AE.d) (AH p.W p.H (AF p.W p.H i e))
theorem VK{p:Pt}{r:Mv}(h:CE p r=0):BF p=0/\DA r.t r.x r.y=0/\HX p=0/\∀i,i<(AY p).length->IJ p r i=0:=by
 unfold CE at h;split at h
 .rename_i a;split at h
  .rename_i c;split at h
   .rename_i b;exact⟨a,c,b,λi hi=>b5c h i Dj Dj⟩
   .rename_i b;exact absurd h b
  .cases h
 .rename_i a;exact absurd h a
theorem f5x{m:Mv}{c:Cl}{K:Int}(a:vM m)(b:(-4200<=c.x/\c.x<=4200)/\(-4200<=c.y/\c.y<=4200)/\0<=c.q/\c.q<=3)(d:Fo m c K)(hK:K<=4096):vC (DF m c):=by unfold Fo at d;refine⟨Dj,Dj,?_⟩;rw[HY a b];exact d93 (FC a) b.2.2
theorem Qb{p:Pt}{r:Mv}(B:0<=r.t)(h:CE p r=0):PlOK p r:=by
 obtain⟨E,T,U,V⟩:=VK h;have hs:=(FQ E).1;have hN:=DB hs;obtain⟨X,rel⟩:=b4k hs U;obtain⟨pl,m⟩:=RW h;obtain⟨O,P⟩:=YD h;rw[X]at pl m O P;have vr:vM r:=⟨B,T⟩
 have f:∀i:Nat,i<AG p.W p.H->GK ((AY p).getD i AE.d).t ((AY p).getD i AE.d).x ((AY p).getD i AE.d).y r.t r.x r.y=0/\Qn p.W p.H (GG ((AY p).getD i AE.d) r) i=0:=by
  intro i a;have:=V i Dj;unfold IJ at this;split at this
  .rename_i z;exact⟨z,this⟩
  .rename_i z;exact absurd this z
 have g:∀(i:Nat) (c:Cl) (K:Int),i<AG p.W p.H->(0<=c.x/\c.x<=300)/\(0<=c.y/\c.y<=300)/\0<=c.q/\c.q<=3->Fo ((AY p).getD i AE.d) c K->K<=4096->DF (GG ((AY p).getD i AE.d) r) c=DF r (DF ((AY p).getD i AE.d) c):=by intro i c K a u j Y;obtain⟨⟨A,_⟩,_⟩:=rel i a;exact b85 A.1 B (f i a).1 Fg (f5x A Dj j Y)
 have b:∀i:Int,0<=i->i<4*p.W*p.H->(0<=(AH p.W p.H i).x/\(AH p.W p.H i).x<=300)/\(0<=(AH p.W p.H i).y/\(AH p.W p.H i).y<=300)/\0<=(AH p.W p.H i).q/\(AH p.W p.H i).q<=3:=λi Z z=>OY hs Z z;have o:∀i:Nat,i<AG p.W p.H->(Bo p r).getD i CO.d=DF ((BL p r).getD i AE.d) (AH p.W p.H i)/\vC ((Bo p r).getD i CO.d):=by
  intro i a;rw[P i a,m i a];have v:=(f i a).2;have Q:VE p r i=DF (JJ p r i) (AH p.W p.H i):=by unfold VE imC JJ DF AH;simp only[v,keep,Jv]
  refine⟨Q,?_⟩;rw[Q];have F:vM (JJ p r i):=(UQ (rel i a).1.1.1 B (f i a).1).2.2.2;unfold Qn GR at v;have hw:=b i Dj Dj;split at v
  .split at v
   .rename_i h3;have G:EH (DF (JJ p r i) (AH p.W p.H i)).x (DF (JJ p r i) (AH p.W p.H i)).y (DF (JJ p r i) (AH p.W p.H i)).q=0:=h3;unfold EH at G;split at G
    .rename_i h5;refine⟨Dj,Dj,?_⟩;rw[HY F Dj];exact d93 (FC F) hw.2.2
    .cases G
   .cases v
  .cases v
 refine⟨pl,O,λi a=> ?_,o,λi e a n j I=> ?_,λi e a n j I=> ?_⟩
 .rw[m i a];exact(UQ (rel i a).1.1.1 B (f i a).1).2.2.2
 .obtain⟨⟨J,L⟩,C⟩:=FT hs (i:=i) Dj Dj n j;have u:Dl p.l (DJ p.W p.H i e)=false:=by
   cases u:Dl p.l (DJ p.W p.H i e)with
   |false=>rfl
   |true=>exact absurd I ((Ur E j).1 u)
  have:=(rel i a).2 e n j;rw[b23 hs Dj Dj n j,u]at this;rw[m _ Dj,m i a];unfold JJ;rw[this];rfl
 .obtain⟨⟨J,L⟩,C⟩:=FT hs (i:=i) Dj Dj n j;have u:=(Ur E j).2 I;have hx:=(rel i a).2 e n j;rw[b23 hs Dj Dj n j,u]at hx;simp only[M4]at hx;obtain⟨⟨A,k⟩,_⟩:=rel i a;have w:(AF p.W p.H i e).toNat<AG p.W p.H:=Dj;obtain⟨⟨F,nr2⟩,_⟩:=rel _ w;obtain⟨g1,R,M⟩:=c15 n (b i Dj Dj) A k Dj;rw[<-hx]at g1 R M;have N:=c5g n (b i Dj Dj) A k;have s:(((AF p.W p.H i e).toNat:Nat):Int)=AF p.W p.H i e:=Dj;have q1:Fo ((AY p).getD (AF p.W p.H i e).toNat AE.d) (AH p.W p.H i) 1025:=by
   unfold Fo at N⊢;rw[M];exact N
  have S:DF ((AY p).getD (AF p.W p.H i e).toNat AE.d) (AH p.W p.H (AF p.W p.H i e))=DF ((AY p).getD i AE.d) (AH p.W p.H i):=by rw[C];exact R
  have q3:Fo ((AY p).getD (AF p.W p.H i e).toNat AE.d) (AH p.W p.H (AF p.W p.H i e)) 1024:=by unfold Fo at k⊢;rw[S];exact k
  refine⟨?_,?_⟩
  .rw[(o _ w).1,(o i a).1,s,m _ w,m i a];unfold JJ;rw[g _ _ 1024 w (b _ J L) q3 Dj,S,g i _ 1024 a (b i Dj Dj) k Dj]
  .rw[m _ w,m i a];unfold JJ;rw[g _ _ 1025 w (b i Dj Dj) q1 Dj,M,g i _ 1025 a (b _ J L) (by rw[C];exact N) Dj,C]
def NS(P:Int->Bool)(l:List Int):Int:=match l.findIdx? P with
 |some i=>i
 |none=> -1
theorem b8h{P:Int->Bool}{l:List Int}{i:Nat}(hi:i<l.length)(h:∀j,j<i->P (l.getD j 0)=false)(a:P (l.getD i 0)=true):NS P l=i:=by
 have:l.findIdx? P=some i:=by
  rw[K3];refine⟨hi,?_,λj b=> ?_⟩
  .simpa[If,hi]using a
  .have:=h j b;have c:j<l.length:=Dj;simpa[If,c]using this
 simp[NS,this]
theorem d4g{P:Int->Bool}{l:List Int}(h:∀j,j<l.length->P (l.getD j 0)=false):NS P l= -1:=by
 have:l.findIdx? P=none:=by rw[Kg];intro x hx;obtain⟨j,a,rfl⟩:=Jg.1 hx;have:=h j a;simpa[If,a]using this
 simp[NS,this]
theorem b7g(P:Int->Bool)(l:List Int):decide (0<=NS P l)=l.any P:=by
 unfold NS;cases h:l.findIdx? P with
 |none=>
  have:=Kg.1 h;have:l.any P=false:=by rw[J5];intro x hx;simpa using this x hx
  rw[this];rfl
 |some i=>
  have:=K3.1 h;obtain⟨a,b,_⟩:=this;have:l.any P=true:=J3.2 ⟨_,Ji a,b⟩;rw[this];simp
def XL:SV->Option (Prop×Int)
 |.rel 1 1 f 0 0=>match f 0 with
  | [.int .i64 n]=>some (f=(λ_=>[.int .i64 n]),n)
  |_=>none
 |_=>none
def Uu(n:Int):SV:=.rel 1 1 (λ_=>[.int .i64 n]) 0 0
theorem c2r{s:SV}{q:Prop}{n:Int}(h:XL s=some (q,n))(a:q):s=Uu n:=by
 unfold XL at h;split at h
 .split at h
  .cases h;rw[a];rfl
  .cases h
 .cases h
def Mw(n v:Int):Bool:=decide (v<0)||decide (v>=n)
def b7z:AK
 | [.int .i64 v,s]=>(XL s).map λn=>(n.1,.bool (Mw n.2 v))
 |_=>none
def f6r:Fam:=⟨Int×Int,λ(v,n)=>[.int .i64 v,Uu n],λ_=>True,λ(v,n)=>.bool (Mw n v)⟩
theorem f83:PS 179 b7z:=by
 refine con [] Dm f6r (λ_ _=>none) b7z ?_ ?_ Tryz.func179 Dk Dk Dk ?_
 .intro args pre s h a;unfold b7z at h;split at h
  .rename_i v x;simp only[In]at h;obtain⟨⟨q,n⟩,hx,b⟩:=h;cases b;rw[c2r hx a];exact⟨(v,n),⟨Dt,by simp[Uu,SV.le2,SV.le1,SV.le0],Im⟩,Im,rfl⟩
  .cases h
 .exact Bt
 .rintro⟨v,n⟩ a;refine X0 _ ?_;(repeat' first|constructor|intro h)<;>refine Lm ?_
  all_goals(first|rfl|skip)
def b7p:AK
 | [x,.clo g [c]]=>if g=179 then(match AC.as x with
   |some (n,f)=>(XL c).map λm=>(m.1/\AC.isL n f/\n<=100000,.int .i64 (NS (Mw m.2) (AC.lst n f)))
   |none=>none)else none
 |_=>none
def c9y:Fam:=⟨List Int×Int,λ(l,m)=>[.sl 1 l.length (AC.row l) none,.clo 179 [Uu m]],λ(l,_)=>l.length<=100000,λ(l,m)=>.int .i64 (NS (Mw m) l)⟩
def f4i:List Int×Int->Nat->Option Inv
 |(l,m),2=>some {β:=Nat,ok:=λi=>i<=l.length/\∀j,j<i->Mw m (l.getD j 0)=false,st:=λi=>⟨[⟨8,none,.int .i64 i⟩,⟨7,none,.int .i64 l.length⟩,⟨1,none,.clo 179 [Uu m]⟩,⟨0,none,.sl 1 l.length (AC.row l) none⟩],[]⟩,μ:=λi=>l.length-i}
 |_,_=>none
theorem f3m:PS 180 b7p:=by
 refine con [(179,b7z)] (by simpa using f83) c9y f4i b7p ?_ ?_ Tryz.func180 Dk Dk Dk ?_
 .intro args pre s h a;unfold b7p at h;split at h
  .split at h
   .rename_i c;subst c;split at h
    .rename_i n f hx;simp only[In]at h;obtain⟨⟨q,m⟩,d,g⟩:=h;cases g;rw[c2r d a.1];exact⟨(AC.lst n f,m),⟨IX (AC.as_leL hx a.2.1),⟨rfl,rfl⟩,Im⟩,by simp only[c9y,RT.lst_length];exact a.2.2,rfl⟩
    .cases h
   .cases h
  .cases h
 .exact Bt
 .rintro⟨l,m⟩ a;replace a:l.length<=100000:=a;refine X0 _ ?_;(repeat' first|constructor|intro h)<;>refine Lm ?_
  refine⟨(0:Nat),⟨Ix _,λj hj=>Dj⟩,?_,?_⟩
  .exact X0c
  .intro i k;obtain⟨dq,br⟩:=k;refine X0 _ ?_;(repeat' first|constructor|intro h)<;>refine Lm ?_
   all_goals(try simp only[Hv]at*)
   all_goals(first
    |exact Ap
    |rfl
    |exact(b8h Dj br Dp).symm
    |(refine⟨i+1,⟨Dj,λj hj=> ?_⟩,Dy,?_⟩)
    |exact Bi
    |skip)
   .by_cases e:j<i
    .exact br j e
    .have:j=i:=Dj;subst this;assumption
   .exact X0d
def b7x:AK
 | [x,.clo g [c]]=>if g=179 then(match AC.as x with
   |some (n,f)=>(XL c).map λm=>(m.1/\AC.isL n f/\n<=100000,.bool ((AC.lst n f).any (Mw m.2)))
   |none=>none)else none
 |_=>none
def d2j:Fam:=⟨List Int×Int,λ(l,m)=>[.sl 1 l.length (AC.row l) none,.clo 179 [Uu m]],λ(l,_)=>l.length<=100000,λ(l,m)=>.bool (l.any (Mw m))⟩
theorem f7x:PS 134 b7x:=by
 refine con [(180,b7p)] (by simpa using f3m) d2j (λ_ _=>none) b7x ?_ ?_ Tryz.func134 Dk Dk Dk ?_
 .intro args pre s h a;unfold b7x at h;split at h
  .split at h
   .rename_i b;subst b;split at h
    .rename_i n f hx;simp only[In]at h;obtain⟨⟨q,m⟩,c,d⟩:=h;cases d;rw[c2r c a.1];exact⟨(AC.lst n f,m),⟨IX (AC.as_leL hx a.2.1),⟨rfl,rfl⟩,Im⟩,by simp only[d2j,RT.lst_length];exact a.2.2,rfl⟩
    .cases h
   .cases h
  .cases h
 .exact Bt
 .rintro⟨l,m⟩ a;replace a:l.length<=100000:=a;refine X0 _ ?_;(repeat' first|constructor|intro h)<;>refine Lm ?_
  all_goals(try simp only[RT.lst_row]at*)
  all_goals(first
   |exact⟨Im,AC.isL_row l,a⟩
   |exact b7g _ _
   |skip)
def CF(L:List Stk):List Int:=L.flatMap (·.l)
def MV(n:Int)(L:List Stk)(i:Nat):Bool:=
 (!decide (EH (L.getD i AA.d).c.x (L.getD i AA.d).c.y (L.getD i AA.d).c.q=0)||decide (0<(i:Int))&&decide (0<=FF (L.getD ((i:Int)-1).toNat AA.d).c.x (L.getD ((i:Int)-1).toNat AA.d).c.y (L.getD ((i:Int)-1).toNat AA.d).c.q (L.getD i AA.d).c.x (L.getD i AA.d).c.y (L.getD i AA.d).c.q)||decide (((L.getD i AA.d).l.length:Int)=0))||(L.getD i AA.d).l.any (Mw n)
def JW:List Int->Bool
 | []=>false
 |x::l=>l.contains x||JW l
def KI(W H:Int)(L:List Stk):Int:=
 if AM W H=0 then(if(List.range L.length).any (MV (EK W H) L)then 1 else if JW (CF L)then 8 else if((CF L).length:Int)<EK W H then 6 else 0)else AM W H
def HG(L:List Stk)(i k:Nat):List Int:=CF (L.take i)++(L.getD i AA.d).l.take k
def WN(W H:Int)(L:List Stk):Int:=if JW (CF L)then 8 else if((CF L).length:Int)<EK W H then 6 else 0
def c24(W H:Int)(L:List Stk):Prop:=∀i,i<L.length->∀v∈(L.getD i AA.d).l,0<=v/\v<EK W H
def ownC(W H:Int)(l:List Int):List Blk:=[.cells 23 [.int .i64 W,.int .i64 H],.cells 3 [.int .i64 (EK W H)],.row 4 1 (EK W H).toNat (λj=>[.bool (l.contains (j:Int))]) none]
theorem c68(L:List Stk)(i:Nat):HG L i 0=CF (L.take i):=by simp[HG]
theorem d5n{L:List Stk}{i:Nat}(hi:i<L.length):HG L i (L.getD i AA.d).l.length=HG L (i+1) 0:=by
 rw[c68];have:L.take (i+1)=L.take i++[L.getD i AA.d]:=by rw[La];simp[hi]
 simp[HG,CF,this]
theorem c40{L:List Stk}{i k:Nat}(a:k<(L.getD i AA.d).l.length):HG L i (k+1)=HG L i k++[(L.getD i AA.d).l.getD k 0]:=by unfold HG;rw[La,Ls];congr 1;rw[If (l:=(L.getD i AA.d).l),Ig a];simp
theorem d4q(L:List Stk):HG L L.length 0=CF L:=by simp[c68]
theorem d1d{L:List Stk}{i k:Nat}(hi:i<L.length):∃m,CF L=HG L i k++m:=by
 have a:L=L.take i++L.getD i AA.d::L.drop (i+1):=by have:=List.take_append_drop i L;rw[List.drop_eq_getElem_cons hi]at this;simp[hi]
 refine⟨(L.getD i AA.d).l.drop k++CF (L.drop (i+1)),?_⟩;have b:CF L=CF (L.take i)++((L.getD i AA.d).l++CF (L.drop (i+1))):=by
  conv=>lhs;rw[a]
  simp[CF]
 rw[b];unfold HG;rw[Ls,<-Ls (List.take k _),List.take_append_drop]
theorem c0j(l:List Int)(x:Int):JW (l++[x])=(JW l||l.contains x):=by
 induction l with
 |nil=>rfl
 |cons a r c=>
  simp only[L8,JW,c,List.contains_cons];have:(r++[x]).contains a=(r.contains a||a==x):=by rw[Ku];simp
  rw[this];cases r.contains a<;>cases JW r<;>cases r.contains x<;>simp[BEq.comm (a:=a) (b:=x)]
theorem d5m{l:List Int}(m:List Int)(h:JW l=true):JW (l++m)=true:=by
 induction l with
 |nil=>cases h
 |cons a r b=>
  simp only[L8,JW,Jn]at h⊢;rcases h with h|h
  .left;simp at h⊢;exact .inl h
  .exact .inr (b h)
def b3u:AK
 | [x,.agg [.int .i64 W,.int .i64 H]]=>(KD x).map λq=>(q.1/\(∀s∈q.2,AD .u8 s.c.q)/\(CF q.2).length<=100000,.int .i64 (KI W H q.2))
 |_=>none
def d8e:Fam:=⟨List Stk×Int×Int,λ(L,W,H)=>[Eo L,.agg [.int .i64 W,.int .i64 H]],λ(L,_,_)=>FH L/\(∀s∈L,AD .u8 s.c.q)/\(CF L).length<=100000,λ(L,W,H)=>.int .i64 (KI W H L)⟩
def d52:List Stk×Int×Int->Nat->Option Inv
 |(L,W,H),6=>some {β:=Nat,ok:=λi=>i<=L.length/\∀j,j<i->MV (EK W H) L j=false,st:=λi=>⟨[⟨25,none,.int .i64 i⟩,⟨24,none,.int .i64 L.length⟩,⟨23,none,.sl 4 L.length (AA.row L) none⟩,⟨6,none,.own 1 0⟩,⟨4,none,.int .i64 0⟩,⟨0,none,.sl 4 L.length (AA.row L) none⟩],[.cells 23 [.int .i64 W,.int .i64 H],.cells 3 [.int .i64 (EK W H)]]⟩,μ:=λi=>L.length-i}
 |(L,W,H),15=>some {β:=Nat,ok:=λi=>i<=L.length/\JW (HG L i 0)=false/\KI W H L=WN W H L/\c24 W H L,st:=λi=>⟨[⟨68,none,.int .i64 i⟩,⟨67,none,.int .i64 L.length⟩,⟨66,none,.sl 4 L.length (AA.row L) none⟩,⟨11,none,.int .i64 (HG L i 0).length⟩,⟨10,none,.osl 2⟩,⟨6,none,.own 1 0⟩,⟨4,none,.int .i64 0⟩],ownC W H (HG L i 0)⟩,μ:=λi=>L.length-i,sub:=λi=>some fun|18=>some {β:=Nat,ok:=λk=>k<=(L.getD i AA.d).l.length/\JW (HG L i k)=false,st:=λk=>⟨[⟨75,none,.int .i64 k⟩,⟨74,none,.int .i64 (L.getD i AA.d).l.length⟩,⟨73,none,.sl 1 (L.getD i AA.d).l.length (AC.row (L.getD i AA.d).l) none⟩,⟨68,none,.int .i64 i⟩,⟨67,none,.int .i64 L.length⟩,⟨66,none,.sl 4 L.length (AA.row L) none⟩,⟨11,none,.int .i64 (HG L i k).length⟩,⟨10,none,.osl 2⟩,⟨6,none,.own 1 0⟩,⟨4,none,.int .i64 0⟩],ownC W H (HG L i k)++[.cells 49 [.int .i64 (L.getD i AA.d).c.x,.int .i64 (L.getD i AA.d).c.y,.int .u8 (L.getD i AA.d).c.q,.sl 1 (L.getD i AA.d).l.length (AC.row (L.getD i AA.d).l) none]]⟩,μ:=λk=>(L.getD i AA.d).l.length-k}|_=>none}
 |_,_=>none
theorem d6w:PS 133 b3u:=by
 refine con [(11,OZ),(112,Tx),(130,PV),(77,Qe),(134,b7x)] (by simpa using⟨Ql,d0y,TO,b0t,f7x⟩) d8e d52 b3u ?_ ?_ Tryz.func133 Dk Dk Dk ?_
 .intro args pre s h a;unfold b3u at h;split at h
  .rename_i x W H;simp only[Hx]at h;obtain⟨⟨q,L⟩,hx,rfl,rfl⟩:=h;obtain⟨J,K⟩:=Oe hx a.1;exact⟨(L,W,H),⟨J,Dz,Im⟩,⟨K,a.2⟩,rfl⟩
  .cases h
 .exact Bt
 .rintro⟨L,W,H⟩ a;replace a:FH L/\(∀s∈L,AD .u8 s.c.q)/\(CF L).length<=100000:=a;have hc:0<=EK W H/\EK W H<=1024:=by
   unfold EK;split
   .have:=Ow ‹_›;have e:4*W*H=4*(W*H):=Kz _ _ _;omega
   .omega
  have hl:=a.1.1;refine X0 _ ?_;(repeat' first|constructor|intro h)<;>refine Lm ?_
  .have M:¬AM W H=0:=Dr;unfold KI;rw[Ii M]
  .refine⟨(0:Nat),⟨Ix _,λj hj=>Dj⟩,?_,?_⟩
   .exact X0c
   .intro i t;obtain⟨N,g⟩:=t;have u:=QU a.1 i;have hg2:=QU a.1 (i-1);have w:∀k,AD .u8 (L.getD k AA.d).c.q:=λk=>by
     rw[If];cases y:L[k]? with
     |none=>exact(by simp only[AD];decide:AD .u8 0)
     |some s=>exact a.2.1 s (Ik y)
    refine X0 _ ?_;(repeat' first|constructor|intro h)<;>refine Lm ?_
    all_goals(try simp only[Hv,RT.lst_row]at*)
    all_goals(first
     |omega
     |exact u
     |exact⟨rfl,AC.isL_row _,u⟩
     |exact w _
     |exact At
     |exact Am
     |exact A4
     |(rintro⟨_,hx⟩;have hx:=Jw hx;simp only[AD];omega)
     |(rintro⟨_,hx⟩;have hx:=Jw hx;omega)
     |(rintro⟨_,hx⟩;exact⟨w _,w _⟩)
     |skip)
    .have n:MV (EK W H) L i=true:=Dp;have hs:AM W H=0:=Hm;have:(List.range L.length).any (MV (EK W H) L)=true:=J3.2 ⟨i,Jk.2 Dj,n⟩;unfold KI;rw[Ih hs,Ih this]
    .have n:MV (EK W H) L i=false:=Dp;refine⟨i+1,⟨Dj,λj hj=> ?_⟩,Dj,?_⟩
     .by_cases e:j<i
      .exact g j e
      .have:j=i:=Dj;subst this;exact n
     .exact X0d
    .refine⟨Dj,Dj,Qg Dk Dj Dj,Dj⟩
    .have hs:AM W H=0:=Hm;have O:(List.range L.length).any (MV (EK W H) L)=false:=by
      rw[J5];intro j hj;have:=g j Gu;simp[this]
     have P:KI W H L=WN W H L:=by unfold KI;rw[Ih hs,Ii (by simp[O])];rfl
     have Q:c24 W H L:=by intro j hj v o;have n:=g j Dj;unfold MV at n;rw[Kv]at n;have:=J5.1 n.2 v o;simp[Mw]at this;omega
     refine⟨(0:Nat),⟨Ix _,rfl,P,Q⟩,?_,?_⟩
     .exact X0d
     .intro i t;obtain⟨N,g,r,F⟩:=t;have u:=QU a.1 i;refine X0 _ ?_;(repeat' first|constructor|intro h)<;>refine Lm ?_
      all_goals(try simp only[Hv]at*)
      all_goals(first
       |omega
       |exact At
       |skip)
      .have f:i<L.length:=Dj;refine⟨(0:Nat),⟨Ix _,g⟩,?_,?_⟩
       .exact X0d
       .intro k y;obtain⟨gv,G⟩:=y;obtain⟨m,R⟩:=d1d (k:=k) f;have Zt:(HG L i k).length<=100000:=by
         have:=a.2.2;rw[R,Jm]at this;omega
        have o:k<(L.getD i AA.d).l.length->0<=(L.getD i AA.d).l.getD k AC.d/\(L.getD i AA.d).l.getD k AC.d<EK W H:=λh=>F i f _ (by rw[If (l:=(L.getD i AA.d).l),Ig h];exact Ji h)
        refine X0 _ ?_;(repeat' first|constructor|intro h)<;>refine Lm ?_
        all_goals(try simp only[Hv]at*)
        all_goals(first
         |omega
         |exact At
         |(have:=o Dj;omega)
         |(show ((L.getD i AA.d).l.getD k AC.d).toNat<(EK W H).toNat;have:=o Dj;omega)
         |skip)
        .have S:=o Dj;rw[show ((((L.getD i AA.d).l.getD k AC.d).toNat:Nat):Int)=(L.getD i AA.d).l.getD k AC.d from Dj]at*;obtain⟨T,U⟩:=d1d (k:=k+1) f;rw[r];unfold WN;rw[Ih];rw[U];refine d5m T ?_;rw[c40 Dj,c0j];rw[Jn];right;assumption
        .have S:=o Dj;rw[show ((((L.getD i AA.d).l.getD k AC.d).toNat:Nat):Int)=(L.getD i AA.d).l.getD k AC.d from Dj]at*;have V:(HG L i k).contains ((L.getD i AA.d).l.getD k AC.d)=false:=Dp;have z:=c40 (L:=L) (i:=i) (k:=k) Dj;refine⟨k+1,⟨Dj,?_⟩,Dj,?_⟩
         .rw[z,c0j,G,Mc];exact V
         .refine X0 _ ?_;(repeat' first|constructor|intro h)<;>refine Lm ?_
          all_goals first
           |exact Aw
           |(rw[z,Jm];rfl)
           |skip
          intro j hj;rw[z];by_cases I:j=((L.getD i AA.d).l.getD k AC.d).toNat
          .have A:(j:Int)=(L.getD i AA.d).l.getD k AC.d:=Dj;have B:((HG L i k)++[(L.getD i AA.d).l.getD k 0]).contains ((L.getD i AA.d).l.getD k AC.d)=true:=by
            rw[Me,Is,Jd];exact .inr (J6.2 rfl)
           rw[J7 I,A,B];rfl
          .have A:¬(j:Int)=(L.getD i AA.d).l.getD k AC.d:=Dj;rw[J9 I];have B:((HG L i k)++[(L.getD i AA.d).l.getD k 0]).contains (j:Int)=(HG L i k).contains (j:Int):=by
            rw[Ku];have X:¬(j:Int)=(L.getD i AA.d).l.getD k 0:=A;simp only[Me,Jd,J6,Is,X,or_false]
           rw[B];rfl
        .have C:k=(L.getD i AA.d).l.length:=Dj;subst C;have E:=d5n f;refine⟨i+1,⟨Dj,by rw[<-E];exact G,r,F⟩,Dj,?_⟩;refine X0 _ ?_;(repeat' first|constructor|intro h)<;>refine Lm ?_
         all_goals first
          |exact Aw
          |(rw[E];done)
          |(intro j hj;rw[E];done)
          |skip
      .have f:i=L.length:=Dj;subst f;rw[d4q]at*;rw[r];unfold WN;rw[Ii (by simp[g]),Ih Dp]
      .have f:i=L.length:=Dj;subst f;rw[d4q]at*;rw[r];unfold WN;rw[Ii (by simp[g]),Ii Dp]
def Xh:SV->Option (Prop×List Cl×Option Nat)
 |.rel 1 1 f 0 0=>match f 0 with
  | [.sl 3 n g a]=>some (f=(λ_=>[.sl 3 n g a])/\g=CO.row (CO.lst n g),CO.lst n g,a)
  |_=>none
 |_=>none
def SX(l:List Cl)(a:Option Nat):SV:=.rel 1 1 (λ_=>[.sl 3 l.length (CO.row l) a]) 0 0
theorem c2t{s:SV}{q:Prop}{l:List Cl}{a:Option Nat}(h:Xh s=some (q,l,a))(b:q):s=SX l a:=by
 unfold Xh at h;split at h
 .split at h
  .cases h;obtain⟨c,d⟩:=b;rw[c];unfold SX;rw[RT.lst_length,<-d]
  .cases h
 .cases h
def VZ:SV->Option (Prop×Cl×SV)
 |.rel 4 1 f 0 0=>match f 0 with
  | [.int .i64 a,.int .i64 b,.int .u8 c,z]=>some (f=(λ_=>[.int .i64 a,.int .i64 b,.int .u8 c,z]),⟨a,b,c⟩,z)
  |_=>none
 |_=>none
def Th(c:Cl)(z:SV):SV:=.rel 4 1 (λ_=>[.int .i64 c.x,.int .i64 c.y,.int .u8 c.q,z]) 0 0
theorem c29{s:SV}{q:Prop}{c:Cl}{z:SV}(h:VZ s=some (q,c,z))(a:q):s=Th c z:=by
 unfold VZ at h;split at h
 .split at h
  .cases h;rw[a];rfl
  .cases h
 .cases h
def ND(a:List Cl)(c:Cl)(v:Int):Bool:= !decide (a.getD v.toNat CO.d=c)
def b7u:AK
 | [.int .i64 v,s,t]=>match Xh s,VZ t with
   |some (q,a,_),some (b,c,_)=>some ((q/\b)/\0<=v/\v<a.length,.bool (ND a c v))
   |_,_=>none
 |_=>none
def f79:Fam:=⟨Int×(List Cl×Option Nat)×Cl×SV,λ(v,(a,b),c,z)=>[.int .i64 v,SX a b,Th c z],λ(v,(a,_),_,_)=>0<=v/\v<a.length,λ(v,(a,_),c,_)=>.bool (ND a c v)⟩
theorem f60:PS 135 b7u:=by
 refine con [] Dm f79 (λ_ _=>none) b7u ?_ ?_ Tryz.func135 Dk Dk Dk ?_
 .intro args pre s h a;unfold b7u at h;split at h
  .rename_i v x1 x2;split at h
   .rename_i q b d q' c z e f;cases h;rw[c2t e a.1.1,c29 f a.1.2];exact⟨(v,(b,d),c,z),⟨Dt,by simp[SX,SV.le2,SV.le1,SV.le0],by simp[Th,SV.le2,SV.le1,SV.le0],Im⟩,a.2,rfl⟩
   .cases h
  .cases h
 .exact Bv
 .rintro⟨v,⟨b,d⟩,c,z⟩ a;replace a:0<=v/\v<b.length:=a;refine X0 _ ?_;(repeat' first|constructor|intro h)<;>refine Lm ?_
  all_goals(first
   |exact a
   |(show v.toNat<b.length;omega)
   |(simp only[ND,clEq];done)
   |skip)
def b88:AK
 | [x,.clo g [s,t]]=>if g=135 then(match AC.as x,Xh s,VZ t with
   |some (n,f),some (q,a,_),some (b,c,_)=>some ((q/\b)/\(AC.isL n f/\n<=100000)/\∀v∈AC.lst n f,0<=v/\v<a.length,.int .i64 (NS (ND a c) (AC.lst n f)))
   |_,_,_=>none)else none
 |_=>none
def f3f:Fam:=⟨List Int×(List Cl×Option Nat)×Cl×SV,λ(l,(a,b),c,z)=>[.sl 1 l.length (AC.row l) none,.clo 135 [SX a b,Th c z]],λ(l,(a,_),_,_)=>l.length<=100000/\∀v∈l,0<=v/\v<a.length,λ(l,(a,_),c,_)=>.int .i64 (NS (ND a c) l)⟩
def f2t:List Int×(List Cl×Option Nat)×Cl×SV->Nat->Option Inv
 |(l,(a,b),c,z),2=>some {β:=Nat,ok:=λi=>i<=l.length/\∀j,j<i->ND a c (l.getD j 0)=false,st:=λi=>⟨[⟨8,none,.int .i64 i⟩,⟨7,none,.int .i64 l.length⟩,⟨1,none,.clo 135 [SX a b,Th c z]⟩,⟨0,none,.sl 1 l.length (AC.row l) none⟩],[]⟩,μ:=λi=>l.length-i}
 |_,_=>none
theorem f36:PS 180 b88:=by
 refine con [(135,b7u)] (by simpa using f60) f3f f2t b88 ?_ ?_ Tryz.func180 Dk Dk Dk ?_
 .intro args pre s h hp;unfold b88 at h;split at h
  .split at h
   .rename_i g;subst g;split at h
    .rename_i n f q im cp q' c z hx k m;cases h;rw[c2t k hp.1.1,c29 m hp.1.2];exact Dd
    .cases h
   .cases h
  .cases h
 .exact Bt
 .rintro⟨l,⟨im,cp⟩,c,z⟩ hp;replace hp:l.length<=100000/\∀v∈l,0<=v/\v<im.length:=hp;refine X0 _ ?_;(repeat' first|constructor|intro h)<;>refine Lm ?_
  refine⟨(0:Nat),⟨Ix _,λj hj=>Dj⟩,?_,?_⟩
  .exact X0c
  .intro i o;obtain⟨dq,br⟩:=o;have b:i<l.length->0<=l.getD i AC.d/\l.getD i AC.d<im.length:=λh=>hp.2 _ (by
    rw[If,Ig h];exact Ji h)
   refine X0 _ ?_;(repeat' first|constructor|intro h)<;>refine Lm ?_
   all_goals(try simp only[Hv,RT.lst_row]at*)
   all_goals(first
    |exact Ap
    |rfl
    |exact⟨⟨⟨Im,Im⟩,Im⟩,b Dj⟩
    |exact⟨⟨⟨rfl,rfl⟩,rfl⟩,b Dj⟩
    |exact(b8h Dj br Dp).symm
    |(refine⟨i+1,⟨Dj,λj hj=> ?_⟩,Dy,?_⟩)
    |exact Bi
    |skip)
   .by_cases e:j<i
    .exact br j e
    .have:j=i:=Dj;subst this;assumption
   .exact X0d
def YO:AK
 | [x,.clo g [s,t]]=>if g=135 then(match AC.as x,Xh s,VZ t with
   |some (n,f),some (q,a,_),some (b,c,_)=>some ((q/\b)/\(AC.isL n f/\n<=100000)/\∀v∈AC.lst n f,0<=v/\v<a.length,.bool ((AC.lst n f).any (ND a c)))
   |_,_,_=>none)else none
 |_=>none
def f6f:Fam:=⟨List Int×(List Cl×Option Nat)×Cl×SV,λ(l,(a,b),c,z)=>[.sl 1 l.length (AC.row l) none,.clo 135 [SX a b,Th c z]],λ(l,(a,_),_,_)=>l.length<=100000/\∀v∈l,0<=v/\v<a.length,λ(l,(a,_),c,_)=>.bool (l.any (ND a c))⟩
theorem f75:PS 134 YO:=by
 refine con [(180,b88)] (by simpa using f36) f6f (λ_ _=>none) YO ?_ ?_ Tryz.func134 Dk Dk Dk ?_
 .intro args pre s h hp;unfold YO at h;split at h
  .split at h
   .rename_i a;subst a;split at h
    .rename_i n f q im cp q' c z hx b d;cases h;rw[c2t b hp.1.1,c29 d hp.1.2];exact Dd
    .cases h
   .cases h
  .cases h
 .exact Bt
 .rintro⟨l,⟨im,cp⟩,c,z⟩ hp;replace hp:l.length<=100000/\∀v∈l,0<=v/\v<im.length:=hp;refine X0 _ ?_;(repeat' first|constructor|intro h)<;>refine Lm ?_
  all_goals(try simp only[RT.lst_row]at*)
  all_goals(first
   |exact⟨⟨⟨Im,Im⟩,Im⟩,⟨AC.isL_row l,hp.1⟩,hp.2⟩
   |exact⟨⟨⟨rfl,rfl⟩,rfl⟩,⟨AC.isL_row l,hp.1⟩,hp.2⟩
   |exact b7g _ _
   |skip)
theorem b6m{W H:Int}{L:List Stk}(h:KI W H L=0):AM W H=0/\(∀i,i<L.length->MV (EK W H) L i=false)/\JW (CF L)=false/\EK W H<=(CF L).length:=by
 unfold KI at h;split at h
 .rename_i hs;split at h
  .cases h
  .rename_i a;split at h
   .cases h
   .rename_i b;split at h
    .cases h
    .refine⟨hs,λi c=> ?_,by simpa using b,Dj⟩;have:=J5.1 (by simpa using a:(List.range L.length).any (MV (EK W H) L)=false) i (Jk.2 c);simpa using this
 .rename_i hs;exact absurd h hs
theorem b9q{W H:Int}{L:List Stk}(h:∀i,i<L.length->MV (EK W H) L i=false):c24 W H L:=by intro j b v c;have a:=h j b;unfold MV at a;rw[Kv]at a;have:=J5.1 a.2 v c;simp[Mw]at this;omega
theorem im_len{p:Pt}{r:Mv}(h:CE p r=0):((Bo p r).length:Int)=EK p.W p.H:=by
 have c:BF p=0/\HX p=0:=by
  unfold CE at h;split at h
  .rename_i a;split at h
   .split at h
    .rename_i b;exact⟨a,b⟩
    .rename_i b;exact absurd h b
   .cases h
  .rename_i a;exact absurd h a
 have hs:=(FQ c.1).1;have:=(b8y p).1 c.2;have:=(YD h).1;have:=(b2a hs).2.2;omega
theorem Xa{p:Prop}[Decidable p]:((!decide p)=true)=¬p:=Dm
theorem Wr{p:Prop}[Decidable p]:((!decide p)=false)=p:=Dm
def RH(a:List Cl)(s:Stk):Bool:=s.l.any (ND a s.c)
def PH(c:Cl)(e:Nat):Bool:= !decide (FO c.x c.y c.q e=0)
def RU(s:Stk):Bool:=(List.range 3).any (PH s.c)
def DP(p:Pt)(r:Mv)(L:List Stk):Int:=
 if CE p r=0 then(if KI p.W p.H L=0 then(if L.any (RH (Bo p r))then 6 else if L.any RU then 3 else 0)else KI p.W p.H L)else CE p r
def FK(L:List Stk):Prop:=FH L/\(∀s∈L,AD .u8 s.c.q)/\(CF L).length<=100000
def VM:AK
 | [x,y,z]=>match Pf [x,y],KD z with
   |some q,some s=>some (q.1/\s.1/\(∀t∈s.2,AD .u8 t.c.q)/\(CF s.2).length<=100000,.int .i64 (DP q.2.1 q.2.2 s.2))
   |_,_=>none
 |_=>none
def d0j:Fam:=⟨Pt×Mv×List Stk,λ(p,r,L)=>[IG p,Ms r,Eo L],λ(p,r,L)=>EL p r/\FK L,λ(p,r,L)=>.int .i64 (DP p r L)⟩
def d3j:Pt×Mv×List Stk->Nat->Option Inv
 |(p,r,L),8=>some {β:=Nat,ok:=λi=>i<=L.length/\∀j,j<i->RH (Bo p r) (L.getD j AA.d)=false,st:=λi=>⟨[⟨35,none,.int .i64 i⟩,⟨34,none,.int .i64 L.length⟩,⟨33,none,.sl 4 L.length (AA.row L) none⟩,⟨7,none,.own 2 0⟩,⟨6,none,.int .i64 0⟩,⟨2,none,.sl 4 L.length (AA.row L) none⟩],[.cells 26 [.int .i64 p.W,.int .i64 p.H,.sl 3 p.l.length (DS p.l) none],.cells 28 [.int .u8 r.t,.int .i64 r.x,.int .i64 r.y],.cells 89 [.sl 3 (Bo p r).length (CO.row (Bo p r)) none]]⟩,μ:=λi=>L.length-i}
 |(_,_,L),14=>some {β:=Nat,ok:=λi=>i<=L.length/\∀j,j<i->RU (L.getD j AA.d)=false,st:=λi=>⟨[⟨46,none,.int .i64 i⟩,⟨45,none,.int .i64 L.length⟩,⟨44,none,.sl 4 L.length (AA.row L) none⟩,⟨6,none,.int .i64 0⟩],[]⟩,μ:=λi=>L.length-i,sub:=λi=>some fun|17=>some {β:=Nat,ok:=λk=>k<=3/\∀j,j<k->PH (L.getD i AA.d).c j=false,st:=λk=>⟨[⟨50,none,.int .u8 k⟩,⟨13,none,.own 0 0⟩,⟨46,none,.int .i64 i⟩,⟨45,none,.int .i64 L.length⟩,⟨44,none,.sl 4 L.length (AA.row L) none⟩,⟨6,none,.int .i64 0⟩],[.cells 49 [.int .i64 (L.getD i AA.d).c.x,.int .i64 (L.getD i AA.d).c.y,.int .u8 (L.getD i AA.d).c.q,.sl 1 (L.getD i AA.d).l.length (AC.row (L.getD i AA.d).l) none]]⟩,μ:=λk=>3-k}|_=>none}
 |_,_=>none
theorem c10:PS 92 VM:=by
 refine con [(33,Ve),(133,b3u),(134,YO),(136,UR)] (by simpa using⟨c2p,d6w,f75,b04⟩) d0j d3j VM ?_ ?_ Tryz.func92 Dk Dk Dk ?_
 .intro args pre s h hp;unfold VM at h;split at h
  .rename_i x y z;split at h
   .rename_i q t f g;cases h;obtain⟨q,p,r⟩:=q;obtain⟨u,L⟩:=t;obtain⟨a1,a2⟩:=b90 f hp.1;obtain⟨b1,b2⟩:=Oe g hp.2.1;exact De
   .cases h
  .cases h
 .exact Bv
 .rintro⟨p,r,L⟩ ⟨A,m⟩;have hl:=m.1.1;refine X0 _ ?_;(repeat' first|constructor|intro h)<;>refine Lm ?_
  all_goals(try simp only[CL,RT.lst_row]at*)
  all_goals(try simp only[Xa,Wr]at*)
  all_goals(first
   |exact⟨⟨⟨EY _,A.1.1⟩,A.1.2⟩,A.2⟩
   |exact⟨NV L m.1,m.2⟩
   |skip)
  .have f:¬CE p r=0:=Dp;unfold DP;rw[Ii f]
  .have f:CE p r=0:=Dp;have g:¬KI p.W p.H L=0:=Dp;unfold DP;rw[Ih f,Ii g]
  .have f:CE p r=0:=Dp;have g:KI p.W p.H L=0:=Dp;have G:=b9q (b6m g).2.1;have h4:=im_len f;have hx:DP p r L=if L.any (RH (Bo p r))then 6 else if L.any RU then 3 else 0:=by
    unfold DP;rw[Ih f,Ih g]
   refine⟨(0:Nat),⟨Ix _,λj hj=>Dj⟩,?_,?_⟩
   .exact X0c
   .intro i n;obtain⟨I,o⟩:=n;have E:=QU m.1 i;have J:i<L.length->∀v∈(L.getD i AA.d).l,0<=v/\v<(Bo p r).length:=λn v K=>by
     have:=G i n v K;omega
    refine X0 _ ?_;(repeat' first|constructor|intro h)<;>refine Lm ?_
    all_goals(try simp only[Hv,RT.lst_row]at*)
    all_goals(first
     |exact Ap
     |skip)
    .refine⟨⟨⟨rfl,?_⟩,rfl⟩,⟨AC.isL_row _,E⟩,J Dj⟩;first|trivial|rfl|(rw[RT.lst_row])
    .have b:RH (Bo p r) (L.getD i AA.d)=true:=Dp;rw[hx,Ih];refine J3.2 ⟨L.getD i AA.d,?_,b⟩;rw[If,Ig Dj];exact Ji _
    .have b:RH (Bo p r) (L.getD i AA.d)=false:=Dp;refine⟨i+1,⟨Dj,λj hj=> ?_⟩,Dj,?_⟩
     .by_cases e:j<i
      .exact o j e
      .have:j=i:=Dj;subst this;exact b
     .exact X0d
    .have B:L.any (RH (Bo p r))=false:=by
      rw[J5];intro s hs;obtain⟨j,hj,rfl⟩:=Jg.1 hs;have:=o j Dj;rw[If,Ig hj]at this;simpa using this
     rw[Ii (by simp[B])]at hx;refine⟨(0:Nat),⟨Ix _,λj hj=>Dj⟩,?_,?_⟩
     .exact X0d
     .intro i n;obtain⟨I,o⟩:=n;have E:=QU m.1 i;have w:0<=(L.getD i AA.d).c.q/\(L.getD i AA.d).c.q<=255:=by
       rw[If];cases C:L[i]? with
       |none=>exact(by decide:(0:Int)<=0/\(0:Int)<=255)
       |some s=>exact m.2.1 s (Ik C)
      refine X0 _ ?_;(repeat' first|constructor|intro h)<;>refine Lm ?_
      all_goals(try simp only[Hv]at*)
      all_goals(first
       |exact Ap
       |skip)
      .refine⟨(0:Nat),⟨Ix _,λj hj=>Dj⟩,?_,?_⟩
       .exact X0d
       .intro k C;obtain⟨gv,F⟩:=C;refine X0 _ ?_;(repeat' first|constructor|intro h)<;>refine Lm ?_
        all_goals(try simp only[Hv,Xa,Wr]at*)
        all_goals(first
         |omega
         |exact⟨w,Er⟩
         |exact⟨w.1,w.2,Dj,Dj⟩
         |exact⟨w,Dj,Dj⟩
         |exact A4
         |skip)
        .have b:PH (L.getD i AA.d).c k=true:=by
          have:¬FO (L.getD i AA.d).c.x (L.getD i AA.d).c.y (L.getD i AA.d).c.q (k:Int)=0:=Dp;unfold PH;rw[Xa];exact this
         rw[hx,Ih];refine J3.2 ⟨L.getD i AA.d,?_,J3.2 ⟨k,Jk.2 Dj,b⟩⟩;rw[If,Ig Dj];exact Ji _
        .have b:PH (L.getD i AA.d).c k=false:=by
          have:FO (L.getD i AA.d).c.x (L.getD i AA.d).c.y (L.getD i AA.d).c.q (k:Int)=0:=Dp;unfold PH;rw[Wr];exact this
         refine⟨k+1,⟨Dj,λj hj=> ?_⟩,Dj,?_⟩
         .by_cases e:j<k
          .exact F j e
          .have:j=k:=Dj;subst this;exact b
         .exact X0d
        .have b:RU (L.getD i AA.d)=false:=by
          unfold RU;rw[J5];intro j hj;have:=F j Gu;rw[this];exact Bool.false_ne_true
         refine⟨i+1,⟨Dj,λj hj=> ?_⟩,Dj,?_⟩
         .by_cases e:j<i
          .exact o j e
          .have:j=i:=Dj;subst this;exact b
         .exact X0d
      .have B:L.any RU=false:=by
        rw[J5];intro s hs;obtain⟨j,hj,rfl⟩:=Jg.1 hs;have:=o j Dj;rw[If,Ig hj]at this;simpa using this
       rw[hx,Ii (by simp[B])]
def BN(c:Cl):List Int:=[c.y,c.x,c.q]
theorem TW(a b:Cl):FF a.x a.y a.q b.x b.y b.q=AZ (BN a) (BN b):=by
 simp only[FF,QI,AZ,BN,CJ];repeat' split
 all_goals(first|rfl|omega)
theorem b7w{a b:Cl}(h:BN a=BN b):a=b:=by simp only[BN,Ia]at h;exact Cl.ext' h.2.1 h.1 h.2.2
theorem c4r{L:List Stk}(h:∀i,0<i->i<L.length->AZ (BN (L.getD (i-1) AA.d).c) (BN (L.getD i AA.d).c)<0):∀j i,i<j->j<L.length->AZ (BN (L.getD i AA.d).c) (BN (L.getD j AA.d).c)<0
 |0,i,b,_=>Dj
 |j+1,i,b,f=>by
  have a:=h (j+1) Dj f;simp only[Mk]at a;by_cases e:i=j
  .subst e;exact a
  .exact UF _ _ _ (c4r h j i Dj Dj) a
theorem b5w:∀(n:Nat) (l:List Int),l.Nodup->(∀x∈l,0<=x/\x<n)->l.length<=n
 |0,[],_,_=>Ir _
 |0,x::l,_,h=>by have:=h x Dm;omega
 |n+1,l,a,h=>by
  by_cases e:(n:Int)∈l
  .have b:=b5w n (l.erase n) (a.erase _) (λx hx=>by
    have:=(List.Nodup.mem_erase_iff a).1 hx;have:=h x this.2;omega)
   rw[List.length_erase_of_mem e]at b;omega
  .have:=b5w n l a (λx hx=>by
    have:=h x hx;have:x≠n:=λc=>e (c▸hx);omega)
   omega
theorem c0x:∀{l:List Int},JW l=false->l.Nodup
 | [],_=>Mf
 |x::l,h=>by simp only[JW,Kv]at h;exact Kb.2 ⟨by simpa using h.1,c0x h.2⟩
structure SkOK (p:Pt) (r:Mv) (L:List Stk):Prop where
 hs:AM p.W p.H=0
 P:PlOK p r
 lt:∀i j,i<j->j<L.length->AZ (BN (L.getD i AA.d).c) (BN (L.getD j AA.d).c)<0
 vc:∀s∈L,vC s.c
 ne:∀s∈L,s.l≠[]
 nd:(CF L).Nodup
 rg:∀v∈CF L,0<=v/\v<4*p.W*p.H
 all:∀u:Int,0<=u->u<4*p.W*p.H->u∈CF L
 im:∀s∈L,∀v∈s.l,(Bo p r).getD v.toNat CO.d=s.c
 nb:∀s∈L,∀e:Int,0<=e->e<3->FO s.c.x s.c.y s.c.q e=0
theorem Do{α:Type}{l:List α}{i:Nat}{d:α}(h:i<l.length):l.getD i d∈l:=by rw[If,Ig h];exact Ji h
theorem Ou{α:Type}{l:List α}{x d:α}(h:x∈l):∃i,i<l.length/\l.getD i d=x:=by obtain⟨i,a,e⟩:=Jg.1 h;exact⟨i,a,by rw[If,Ig a];exact e⟩
theorem b8r{p:Pt}{r:Mv}{L:List Stk}(h:DP p r L=0):CE p r=0/\KI p.W p.H L=0/\L.any (RH (Bo p r))=false/\L.any RU=false:=by
 unfold DP at h;split at h
 .rename_i a;split at h
  .rename_i b;split at h
   .cases h
   .rename_i h3;split at h
    .cases h
    .rename_i h4;exact⟨a,b,G3,F0⟩
  .rename_i b;exact absurd h b
 .rename_i a;exact absurd h a
theorem f77{p:Pt}{r:Mv}{L:List Stk}(h:DP p r L=0)(z:0<=r.t)(A:∀s∈L,AD .u8 s.c.q):SkOK p r L:=by
 obtain⟨B,C,E,F⟩:=b8r h;obtain⟨hs,n,G,hl⟩:=b6m C;have I:=b9q n;have hc:EK p.W p.H=4*p.W*p.H:=by simp[EK,hs]
 have hN:=DB hs;have o:=c0x G;have w:∀v∈CF L,0<=v/\v<4*p.W*p.H:=by intro v k;obtain⟨s,hs',J⟩:=List.mem_flatMap.1 k;obtain⟨i,a,rfl⟩:=Ou (d:=AA.d) hs';have:=I i a v J;omega
 have b:∀i,i<L.length->(EH (L.getD i AA.d).c.x (L.getD i AA.d).c.y (L.getD i AA.d).c.q=0/\(0<i->AZ (BN (L.getD (i-1) AA.d).c) (BN (L.getD i AA.d).c)<0))/\(L.getD i AA.d).l≠[]:=by
  intro i a;have:=n i a;unfold MV at this;simp only[Kv,Bool.and_eq_false_iff,Bool.not_eq_false',I0]at this;obtain⟨⟨⟨g1,f⟩,K⟩,_⟩:=this;refine⟨⟨g1,λm=> ?_⟩,λe=>K (by rw[e];rfl)⟩;rw[<-TW];have e:((i:Int)-1).toNat=i-1:=Dj;rw[e]at f;rcases f with f|f
  .exact absurd Dj f
  .omega
 refine⟨hs,Qb z B,λi j M N=>c4r (λi m a=>(b i a).1.2 m) j i M N,λs hs'=> ?_,λs hs'=> ?_,o,w,λu m hu=> ?_,λs hs' v k=> ?_,λs hs' e js he=> ?_⟩
 .obtain⟨i,a,rfl⟩:=Ou (d:=AA.d) hs';have g:=(b i a).1.1;have f:=A _ hs';simp only[AD]at f;unfold EH at g;split at g
  .unfold vC;omega
  .cases g
 .obtain⟨i,a,rfl⟩:=Ou (d:=AA.d) hs';exact(b i a).2
 .apply Classical.byContradiction;intro O;have:=b5w (AG p.W p.H) (u::CF L) (Kb.2 ⟨O,o⟩) (λx hx=>by
   rcases Iv.1 hx with rfl|hx
   .omega
   .have:=w x hx;omega)
  simp only[Jy]at this;omega
 .have:=J5.1 E s hs';unfold RH at this;have:=J5.1 (by simpa using this:s.l.any (ND (Bo p r) s.c)=false) v k;simpa[ND]using this
 .have:=J5.1 F s hs';unfold RU at this;have:=J5.1 (by simpa using this:(List.range 3).any (PH s.c)=false) e.toNat (Jk.2 Dj)
  have P:((e.toNat:Nat):Int)=e:=Dj;simpa[PH,P]using this
def Pr(h:List Int)(q:Int×Nat):List Int:=h.set q.1.toNat (q.2:Int)
def Qj(L:List Stk):List (Int×Nat):=L.flatMap λs=>s.l.zipIdx
def HF(L:List Stk)(n:Nat):List Int:=(Qj L).foldl Pr (List.replicate n 0)
theorem b7m:∀(l:List (Int×Nat)) (h:List Int),(l.foldl Pr h).length=h.length
 | [],_=>rfl
 |q::l,h=>by rw[Lb,b7m l];simp[Pr]
theorem WF(L:List Stk)(n:Nat):(HF L n).length=n:=by simp[HF,b7m]
theorem b66:∀(l:List (Int×Nat)) (h:List Int) (v:Int),0<=v->(∀q∈l,0<=q.1/\q.1≠v)->(l.foldl Pr h).getD v.toNat 0=h.getD v.toNat 0
 | [],_,_,_,_=>rfl
 |q::l,h,v,b,a=>by rw[Lb,b66 l _ v b (λx hx=>a x E4)];have:=a q Dm;have c:q.1.toNat≠v.toNat:=Dj;simp[Pr,Iw c]
theorem c55:∀(l:List (Int×Nat)) (h:List Int),(l.map (·.1)).Nodup->(∀q∈l,0<=q.1/\q.1<h.length)->∀q∈l,(l.foldl Pr h).getD q.1.toNat 0=q.2
 | [],_,_,_,q,a=>by simp at a
 |x::l,h,b,c,q,a=>by
  rw[Lb];rw[K1,Kb]at b;rcases Iv.1 a with rfl|a
  .have hx:=c q Dm;rw[b66 l _ q.1 hx.1 (λy hy=>⟨(c y Ex).1,λe=>b.1 (J4.2 ⟨y,hy,e⟩)⟩)];have:q.1.toNat<h.length:=Dj;simp[Pr,this]
  .exact c55 l _ b.2 (λy hy=>by have:=c y Ex;simpa[Pr]using this) q a
theorem c0i(L:List Stk):(Qj L).map (·.1)=CF L:=by unfold Qj CF;rw[List.map_flatMap];congr 1;funext s;simp
section
variable{p:Pt}{r:Mv}{L:List Stk}
theorem f5n(S:SkOK p r L){s:Stk}(hs:s∈L){k:Nat}(a:k<s.l.length):(HF L (AG p.W p.H)).getD (s.l.getD k 0).toNat 0=k:=by
 have hN:=DB S.hs;have b:(s.l.getD k 0,k)∈Qj L:=by refine List.mem_flatMap.2 ⟨s,hs,?_⟩;rw[List.mem_zipIdx_iff_getElem?];simp[a]
 have:=c55 (Qj L) (List.replicate (AG p.W p.H) 0) (by rw[c0i];exact S.nd) (λq c=>by
  have d:q.1∈CF L:=by rw[<-c0i];exact J4.2 ⟨q,c,rfl⟩
  have:=S.rg _ d;simp;omega) _ b
 exact this
theorem WH(S:SkOK p r L){u:Int}(b:0<=u)(h:u<4*p.W*p.H):∃i k,i<L.length/\k<(L.getD i AA.d).l.length/\(L.getD i AA.d).l.getD k 0=u/\(Bo p r).getD u.toNat CO.d=(L.getD i AA.d).c:=by obtain⟨s,hs,a⟩:=List.mem_flatMap.1 (S.all u b h);obtain⟨i,f,rfl⟩:=Ou (d:=AA.d) hs;obtain⟨k,g,e⟩:=Ou (d:=(0:Int)) a;exact⟨i,k,f,g,e,S.im _ hs _ a⟩
theorem f10(S:SkOK p r L){u v:Int}(b:0<=u/\u<4*p.W*p.H)(c:0<=v/\v<4*p.W*p.H)(hi:(Bo p r).getD u.toNat CO.d=(Bo p r).getD v.toNat CO.d)
 (hh:(HF L (AG p.W p.H)).getD u.toNat 0=(HF L (AG p.W p.H)).getD v.toNat 0):u=v:=by
 obtain⟨i,k,a,g,e,l⟩:=WH S b.1 b.2;obtain⟨j,m,n,o,f,q⟩:=WH S c.1 c.2;rw[l,q]at hi;have s:i=j:=by
  rcases Lt i j with h|h|h
  .have:=S.lt i j h n;rw[hi,Tp]at this;omega
  .exact h
  .have:=S.lt j i h a;rw[hi,Tp]at this;omega
 subst s;have t:=f5n S (Do (d:=AA.d) a) g;have w:=f5n S (Do (d:=AA.d) a) o;rw[e]at t;rw[f]at w;have:k=m:=Dj;subst this;rw[<-e,<-f]
theorem f53{m:Mv}{c:Cl}{e:Int}(a:vM m)(b:(-300<=c.x/\c.x<=300)/\(-300<=c.y/\c.y<=300)/\0<=c.q/\c.q<=3)(f:0<=e/\e<3):∃d,(0<=d/\d<3)/\DF m (AP c e)=AP (DF m c) d:=by
 have hb:=LQ b.2.2 f;rw[HY a Dj,HY a Dj];obtain⟨X,Y,Q⟩:=c;simp only at b;refine⟨if e=0 then 0 else if m.t=0\/m.t=2\/m.t=5\/m.t=7 then e else 3-e,by split<;>(try split)<;>omega,?_⟩;rcases EJ b.2.2 with rfl|rfl|rfl|rfl<;>rcases GN f with rfl|rfl|rfl<;>rcases FC a with h|h|h|h|h|h|h|h<;>rw[h]<;>
  (simp[AP,sq,tq,DR,DU,DW,tb];try omega)
theorem b9a{c:Cl}{e a:Int}(b:0<=c.q/\c.q<=3)(d:0<=e/\e<3)(f:0<=a/\a<3)(h:AP c e=AP c a):e=a:=by obtain⟨X,Y,Q⟩:=c;simp only at b;rcases EJ b with rfl|rfl|rfl|rfl<;>rcases GN d with rfl|rfl|rfl<;>rcases GN f with rfl|rfl|rfl<;>first|rfl|(exfalso;revert h;simp[AP,DR,DU,DW,tb])
theorem WY{c:Cl}{e:Int}(a:0<=c.q/\c.q<=3)(b:0<=e/\e<3):AP c e≠c:=by obtain⟨X,Y,Q⟩:=c;simp only at a;rcases EJ a with rfl|rfl|rfl|rfl<;>rcases GN b with rfl|rfl|rfl<;>(intro h;revert h;simp[AP,DR,DU,DW,tb])
def CG(p:Pt)(r:Mv)(u:Int):Cl:=(Bo p r).getD u.toNat CO.d
def AO(p:Pt)(r:Mv)(u:Int):Mv:=(BL p r).getD u.toNat AE.d
def FM(p:Pt)(r:Mv)(u e:Int):Cl:=DF (AO p r u) (AP (AH p.W p.H u) e)
theorem Ul(hs:AM p.W p.H=0){u:Int}(a:0<=u)(h:u<4*p.W*p.H):(-300<=(AH p.W p.H u).x/\(AH p.W p.H u).x<=300)/\(-300<=(AH p.W p.H u).y/\(AH p.W p.H u).y<=300)/\0<=(AH p.W p.H u).q/\(AH p.W p.H u).q<=3:=by have:=OY hs a h;omega
theorem Sd(S:SkOK p r L){u:Int}(h0:0<=u)(h:u<4*p.W*p.H):CG p r u=DF (AO p r u) (AH p.W p.H u)/\vM (AO p r u)/\vC (CG p r u):=by have hN:=DB S.hs;have a:=S.P.im u.toNat Dj;have e:((u.toNat:Nat):Int)=u:=Dj;rw[e]at a;exact⟨a.1,S.P.vm _ Dj,a.2⟩
theorem WI(S:SkOK p r L){u e:Int}(f:0<=u)(h:u<4*p.W*p.H)(m:0<=e/\e<3):vC (FM p r u e)/\FM p r u e≠CG p r u/\∃a,(0<=a/\a<3)/\FM p r u e=AP (CG p r u) a:=by
 obtain⟨g1,n,l⟩:=Sd S f h;obtain⟨a,c,o⟩:=f53 n (Ul S.hs f h) m;have g:FM p r u e=AP (CG p r u) a:=by rw[g1];exact o
 obtain⟨i,k,s,hk,hu,t⟩:=WH S f h;have b:=S.nb _ (Do (d:=AA.d) s) a c.1 c.2;rw[<-t]at b;refine⟨?_,?_,a,c,g⟩
 .rw[g];have hb:=LQ l.2.2 c;unfold FO at b;split at b
  .split at b
   .rename_i j;unfold EH at j;split at j
    .rename_i v;unfold vC;have:(AP (CG p r u) a).x=DR (CG p r u).q a+(CG p r u).x:=rfl;have:(AP (CG p r u) a).y=DU (CG p r u).q a+(CG p r u).y:=rfl;have h7: -4096<=DR (CG p r u).q a+(CG p r u).x/\DR (CG p r u).q a+(CG p r u).x<=4096/\ -4096<=DU (CG p r u).q a+(CG p r u).y/\DU (CG p r u).q a+(CG p r u).y<=4096/\DW (CG p r u).q a<=3:=v;omega
    .cases j
   .cases b
  .cases b
 .rw[g];exact WY l.2.2 c
theorem f6p(S:SkOK p r L){u e a:Int}(b:0<=u)(h:u<4*p.W*p.H)(d:0<=e/\e<3)(f:0<=a/\a<3)(g:FM p r u e=FM p r u a):e=a:=by obtain⟨g1,i,g3⟩:=Sd S b h;have hc:=IH S.hs b h;have c:=Ul S.hs b h;have b1:=LQ c.2.2 d;have b2:=LQ c.2.2 f;exact b9a c.2.2 d f (c8z i Fg Fg g)
end
end Go.Proofs.YtngppkidkigcbaaGreatDoor.V
