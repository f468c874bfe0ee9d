/-
  Parts of the proof: N1 P7 A15 B0 A16 A1 A2 A3 P1 P2 A4 P4 A5 A6 P3 A7 P8 P9 P10 A8 A9 A10 A11 A12a A12 A23 Q6 A24 A25 A26. Conditions: none.
-/
import Derived.Test.YtaihldljnlgnoaaGreatDoorScc5
import Derived.Test.YtaihldljnlgnoaaGreatDoorChecked
set_option maxRecDepth 100000
set_option maxHeartbeats 40000000
namespace Go.Proofs.YtaihldljnlgnoaaGreatDoor.V
open Go
def UD:AM
 | []=>some (True,.bool true)
 |_=>none
structure Cr where
 c:Int
 e:Int
 k:Int
 deriving DecidableEq
def d0:Cr:=⟨0,0,0⟩
def Xx(x:Cr):List SV:=[.int .i64 x.c,.int .u8 x.e,.int .u8 x.k]
def crOf:List SV->Cr
 | [.int _ a,.int _ b,.int _ c]=>⟨a,b,c⟩
 |_=>d0
def DZ(l:List Cr)(i:Nat):List SV:=Xx (l.getD i d0)
def EF(n:Nat)(f:Nat->List SV):List Cr:=(List.range n).map λi=>crOf (f i)
def MN(n:Nat)(f:Nat->List SV):Prop:=∀i,i<n->f i=Xx (crOf (f i))
def PT:SV->Option (Nat×(Nat->List SV))
 |.sl 3 n f _=>some (n,f)
 |.con (.slice none 0 0)=>some (0,λ_=>[])
 |_=>none
theorem FF(l:List Cr):MN l.length (DZ l):=λ_ _=>rfl
theorem Sh(n:Nat)(f:Nat->List SV):(EF n f).length=n:=by simp[EF]
theorem d3d{n:Nat}{f:Nat->List SV}(h:MN n f):∀i,i<n->f i=DZ (EF n f) i:=by intro i a;rw[h i a];simp[DZ,EF,a]
theorem CU(l:List Cr):EF l.length (DZ l)=l:=by
 apply Ly;intro i;by_cases a:i<l.length
 .simp[EF,DZ,a,Xx,crOf]
 .simp at a;simp[EF,a]
theorem Hl{s:SV}{sz n:Nat}{f:Nat->List SV}{c:Option Nat}(h:s.le0 (.sl sz n f c)):s.le2 (.sl sz n f c):=by cases s<;>exact h
theorem Sa{s:SV}{n:Nat}{f:Nat->List SV}(h:PT s=some (n,f))(a:MN n f):SV.le0 s (.sl 3 (EF n f).length (DZ (EF n f)) none):=by
 unfold PT at h;split at h
 .cases h;simp only[SV.le0,GL,Sh,Ke,Ni];exact RZ (d3d a)
 .cases h;simp[SV.le0,EF,GL]
 .cases h
theorem d3n{sz n:Nat}{f:Nat->List SV}(c:Option Nat):SV.le0 (.sl sz n f c) (.sl sz n f none):=by simp only[SV.le0,GL,Ke,Ni];exact λi hi=>.inl rfl
theorem c8y(sz:Nat){f:Nat->List SV}:SV.le0 (.con (.slice none 0 0)) (.sl sz 0 f none):=by simp[SV.le0,GL]
theorem MU{b n:Nat}(h:Nat.ble b 128=true)(a:n*128<=140737488355328):n*b<=140737488355328:=
 Kq (Nat.mul_le_mul_left _ (Nat.le_of_ble_eq_true h)) a
def Wb:AM
 | [.sl 1 n f _]=>some (n<=100000,.sl 1 n f (some n))
 | [.con (.slice none 0 0)]=>some (True,.sl 1 0 (λ_=>[]) (some 0))
 |_=>none
def f0k:Fam:=⟨Nat×(Nat->List SV),λ(n,f)=>[.sl 1 n f none],λ(n,_)=>n<=100000,λ(n,f)=>.sl 1 n f (some n)⟩
theorem c0k:PS 130 Wb:=by
 refine con [] Dx f0k (λ_ _=>none) Wb ?_ ?_ Tryz.func130 Dw Dw Dw ?_
 .intro args pre s h hp;unfold Wb at h;split at h
  .rename_i n f c;cases h;exact C3
  .cases h;exact C6
  .cases h
 .exact C0
 .rintro⟨n,f⟩ hp;replace hp:n<=100000:=hp;refine X0 _ ?_;(repeat' first|constructor|intro h)<;>refine Lm ?_
  all_goals(first
   |exact As
   |(show some ((n:Int)-0).toNat=some n;congr 1)
   |(intro i hi;congr 1;simp;done)
   |skip)
def b19:AM
 | [.sl 1 n f _]=>some (n<=100000,.sl 1 n f none)
 | [.con (.slice none 0 0)]=>some (True,.sl 1 0 (λ_=>[]) none)
 |_=>none
def d1r:Fam:=⟨Nat×(Nat->List SV),λ(n,f)=>[.sl 1 n f none],λ(n,_)=>n<=100000,λ(n,f)=>.sl 1 n f none⟩
theorem c1h:PS 131 b19:=by
 refine con [] Dx d1r (λ_ _=>none) b19 ?_ ?_ Tryz.func131 Dw Dw Dw ?_
 .intro args pre s h hp;unfold b19 at h;split at h
  .rename_i n f c;cases h;exact C3
  .cases h;exact C6
  .cases h
 .exact C0
 .rintro⟨n,f⟩ hp;replace hp:n<=100000:=hp;refine X0 _ ?_;(repeat' first|constructor|intro h)<;>refine Lm ?_
  all_goals(first
   |omega
   |exact Bi
   |(intro i hi;simp;done)
   |skip)
def b1m:AM
 | [.sl 4 n f _]=>some (n<=100000,.sl 4 n f (some n))
 | [.con (.slice none 0 0)]=>some (True,.sl 4 0 (λ_=>[]) (some 0))
 |_=>none
def c9j:Fam:=⟨Nat×(Nat->List SV),λ(n,f)=>[.sl 4 n f none],λ(n,_)=>n<=100000,λ(n,f)=>.sl 4 n f (some n)⟩
theorem d0c:PS 101 b1m:=by
 refine con [] Dx c9j (λ_ _=>none) b1m ?_ ?_ Tryz.func101 Dw Dw Dw ?_
 .intro args pre s h hp;unfold b1m at h;split at h
  .rename_i n f c;cases h;exact C3
  .cases h;exact C6
  .cases h
 .exact C0
 .rintro⟨n,f⟩ hp;replace hp:n<=100000:=hp;refine X0 _ ?_;(repeat' first|constructor|intro h)<;>refine Lm ?_
  all_goals(first
   |exact As
   |(show some ((n:Int)-0).toNat=some n;congr 1)
   |(intro i hi;congr 1;simp;done)
   |skip)
def b0r:AM
 | [.sl 4 n f _]=>some (n<=100000,.sl 4 n f none)
 | [.con (.slice none 0 0)]=>some (True,.sl 4 0 (λ_=>[]) none)
 |_=>none
def c3s:Fam:=⟨Nat×(Nat->List SV),λ(n,f)=>[.sl 4 n f none],λ(n,_)=>n<=100000,λ(n,f)=>.sl 4 n f none⟩
theorem c5i:PS 102 b0r:=by
 refine con [] Dx c3s (λ_ _=>none) b0r ?_ ?_ Tryz.func102 Dw Dw Dw ?_
 .intro args pre s h hp;unfold b0r at h;split at h
  .rename_i n f c;cases h;exact C3
  .cases h;exact C6
  .cases h
 .exact C0
 .rintro⟨n,f⟩ hp;replace hp:n<=100000:=hp;refine X0 _ ?_;(repeat' first|constructor|intro h)<;>refine Lm ?_
  all_goals(first
   |omega
   |exact Bi
   |(intro i hi;simp;done)
   |skip)
def b0w:AM
 | [.sl 3 n f _]=>some (n<=100000,.sl 3 n f (some n))
 | [.con (.slice none 0 0)]=>some (True,.sl 3 0 (λ_=>[]) (some 0))
 |_=>none
def c40:Fam:=⟨Nat×(Nat->List SV),λ(n,f)=>[.sl 3 n f none],λ(n,_)=>n<=100000,λ(n,f)=>.sl 3 n f (some n)⟩
theorem c3k:PS 77 b0w:=by
 refine con [] Dx c40 (λ_ _=>none) b0w ?_ ?_ Tryz.func77 Dw Dw Dw ?_
 .intro args pre s h hp;unfold b0w at h;split at h
  .rename_i n f c;cases h;exact C3
  .cases h;exact C6
  .cases h
 .exact C0
 .rintro⟨n,f⟩ hp;replace hp:n<=100000:=hp;refine X0 _ ?_;(repeat' first|constructor|intro h)<;>refine Lm ?_
  all_goals(first
   |exact As
   |(show some ((n:Int)-0).toNat=some n;congr 1)
   |(intro i hi;congr 1;simp;done)
   |skip)
def b0b:AM
 | [.sl 3 n f _]=>some (n<=100000,.sl 3 n f none)
 | [.con (.slice none 0 0)]=>some (True,.sl 3 0 (λ_=>[]) none)
 |_=>none
def c3a:Fam:=⟨Nat×(Nat->List SV),λ(n,f)=>[.sl 3 n f none],λ(n,_)=>n<=100000,λ(n,f)=>.sl 3 n f none⟩
theorem c3f:PS 78 b0b:=by
 refine con [] Dx c3a (λ_ _=>none) b0b ?_ ?_ Tryz.func78 Dw Dw Dw ?_
 .intro args pre s h hp;unfold b0b at h;split at h
  .rename_i n f c;cases h;exact C3
  .cases h;exact C6
  .cases h
 .exact C0
 .rintro⟨n,f⟩ hp;replace hp:n<=100000:=hp;refine X0 _ ?_;(repeat' first|constructor|intro h)<;>refine Lm ?_
  all_goals(first
   |omega
   |exact Bi
   |(intro i hi;simp;done)
   |skip)
def b2j:AM
 | [.sl 2 n f _]=>some (n<=100000,.sl 2 n f (some n))
 | [.con (.slice none 0 0)]=>some (True,.sl 2 0 (λ_=>[]) (some 0))
 |_=>none
def d10:Fam:=⟨Nat×(Nat->List SV),λ(n,f)=>[.sl 2 n f none],λ(n,_)=>n<=100000,λ(n,f)=>.sl 2 n f (some n)⟩
theorem d5d:PS 145 b2j:=by
 refine con [] Dx d10 (λ_ _=>none) b2j ?_ ?_ Tryz.func145 Dw Dw Dw ?_
 .intro args pre s h hp;unfold b2j at h;split at h
  .rename_i n f c;cases h;exact C3
  .cases h;exact C6
  .cases h
 .exact C0
 .rintro⟨n,f⟩ hp;replace hp:n<=100000:=hp;refine X0 _ ?_;(repeat' first|constructor|intro h)<;>refine Lm ?_
  all_goals(first
   |exact As
   |(show some ((n:Int)-0).toNat=some n;congr 1)
   |(intro i hi;congr 1;simp;done)
   |skip)
def b2h:AM
 | [.sl 3 n f _]=>some (n<=100000,.sl 3 n f (some n))
 | [.con (.slice none 0 0)]=>some (True,.sl 3 0 (λ_=>[]) (some 0))
 |_=>none
def d78:Fam:=⟨Nat×(Nat->List SV),λ(n,f)=>[.sl 3 n f none],λ(n,_)=>n<=100000,λ(n,f)=>.sl 3 n f (some n)⟩
theorem d39:PS 147 b2h:=by
 refine con [] Dx d78 (λ_ _=>none) b2h ?_ ?_ Tryz.func147 Dw Dw Dw ?_
 .intro args pre s h hp;unfold b2h at h;split at h
  .rename_i n f c;cases h;exact C3
  .cases h;exact C6
  .cases h
 .exact C0
 .rintro⟨n,f⟩ hp;replace hp:n<=100000:=hp;refine X0 _ ?_;(repeat' first|constructor|intro h)<;>refine Lm ?_
  all_goals(first
   |exact As
   |(show some ((n:Int)-0).toNat=some n;congr 1)
   |(intro i hi;congr 1;simp;done)
   |skip)
structure RT (α:Type)where
 sz:Nat
 sv:α->List SV
 of:List SV->α
 d:α
 ok:∀x,of (sv x)=x
def RT.row{α:Type}(R:RT α)(l:List α)(i:Nat):List SV:=R.sv (l.getD i R.d)
def RT.lst{α:Type}(R:RT α)(n:Nat)(f:Nat->List SV):List α:=(List.range n).map λi=>R.of (f i)
def RT.is{α:Type}(R:RT α)(n:Nat)(f:Nat->List SV):Prop:=∀i,i<n->f i=R.sv (R.of (f i))
theorem RT.is_row{α:Type}(R:RT α)(l:List α):R.is l.length (R.row l):=λi _=>by simp only[RT.row,R.ok]
theorem RT.lst_length{α:Type}(R:RT α)(n:Nat)(f:Nat->List SV):(R.lst n f).length=n:=by simp[RT.lst]
theorem RT.row_lst{α:Type}(R:RT α){n:Nat}{f:Nat->List SV}(h:R.is n f):∀i,i<n->f i=R.row (R.lst n f) i:=by intro i a;rw[h i a];simp[RT.row,RT.lst,a]
theorem RT.lst_row{α:Type}(R:RT α)(l:List α):R.lst l.length (R.row l)=l:=by
 apply Ly;intro i;by_cases a:i<l.length
 .simp[RT.lst,RT.row,a,R.ok]
 .simp at a;simp[RT.lst,a]
def RT.as{α:Type}(R:RT α):SV->Option (Nat×(Nat->List SV))
 |.sl a n f _=>if a=R.sz then some (n,f)else none
 |.con (.slice none 0 0)=>some (0,λ_=>[])
 |_=>none
theorem RT.as_le{α:Type}(R:RT α){s:SV}{n:Nat}{f:Nat->List SV}(h:R.as s=some (n,f))(a:R.is n f):SV.le0 s (.sl R.sz (R.lst n f).length (R.row (R.lst n f)) none):=by
 unfold RT.as at h;split at h
 .split at h
  .rename_i b;cases h;simp only[SV.le0,GL,RT.lst_length,b,Ni];exact⟨J5,RZ (R.row_lst a)⟩
  .cases h
 .cases h;simp[SV.le0,RT.lst,GL]
 .cases h
structure Mv where
 t:Int
 x:Int
 y:Int
 deriving DecidableEq
def AH:RT Mv:=⟨3,λm=>[.int .u8 m.t,.int .i64 m.x,.int .i64 m.y],λl=>match l with
 | [.int _ a,.int _ b,.int _ c]=>⟨a,b,c⟩
 |_=>⟨0,0,0⟩,⟨0,0,0⟩,λ_=>rfl⟩
def AC:RT Int:=⟨1,λn=>[.int .i64 n],λl=>match l with
 | [.int _ a]=>a
 |_=>0,0,λ_=>rfl⟩
def GM:RT Bool:=⟨1,λb=>[.bool b],λl=>match l with
 | [.bool b]=>b
 |_=>false,false,λ_=>rfl⟩
theorem b17{α:Type}(R:RT α){l:List α}{n j:Nat}{m:α}(h:n<l.length)(e:j=n):R.row (l.set n m) j=R.sv m:=by subst e;simp[RT.row,h]
theorem b3m{α:Type}(R:RT α){l:List α}{n j:Nat}{m:α}(e:¬j=n):R.row (l.set n m) j=R.row l j:=by simp only[RT.row,Ix,Jh (Ne.symm e)]
theorem b0a{α:Type}(R:RT α){l r:List α}{j:Nat}(h:j<l.length):R.row (l++r) j=R.row l j:=by simp only[RT.row,Ix,Jc h]
theorem b09{α:Type}(R:RT α){l:List α}{x:α}:R.row (l++[x]) l.length=R.sv x:=by simp[RT.row]
theorem d8v{α:Type}(R:RT α)(x:α)(r:List α)(j:Nat):R.row (x::r) (1+j)=R.row r j:=by rw[Nat.add_comm];rfl
theorem Qz{b:Nat}{n:Int}(h:Nat.ble b 128=true)(a:0<=n)(c:128*n<=281474976710656):(b:Int)*n<=281474976710656:=by have:b<=128:=Nat.le_of_ble_eq_true h;exact Int.le_trans (Int.mul_le_mul_of_nonneg_right Dv a) c
def upto{α:Type}(A B:Nat->α)(i j:Nat):α:=if j<i then A j else B j
theorem b6e{α:Type}(R:RT α)(c:∀a b,DC true (R.sv a) (R.sv b)=R.sv a)(d:∀a b,DC false (R.sv a) (R.sv b)=R.sv b)(A B:Nat->α)(i j:Nat):
 DC (decide (j=i)) (R.sv (A i)) (R.sv (upto A B i j))=R.sv (upto A B (i+1) j):=by
 by_cases e:j=i
 .subst e;rw[Jf rfl,c];simp[upto]
 .rw[Ji e,d];by_cases h:j<i
  .simp[upto,h,show j<i+1 from Dv]
  .simp[upto,h,show¬j<i+1 from Dv]
theorem b6q{α:Type}(A B:Nat->α)(j:Nat):upto A B 0 j=B j:=by simp[upto]
theorem b8u{α:Type}(A B:Nat->α){i j:Nat}(h:j<i):upto A B i j=A j:=by simp[upto,h]
theorem c0y{α:Type}(A B:Nat->α){i j:Nat}(h:i<=j):upto A B i j=B j:=by simp[upto,show¬j<i from Dv]
def MJ(f:Nat->Int):Nat->Nat->Int
 |0,_=>0
 |n+1,i=>if f i=0 then MJ f n (i+1)else f i
theorem b6a{f:Nat->Int}:∀{n i:Nat},MJ f n i=0->∀j,i<=j->j<i+n->f j=0
 |0,i,_,j,b,c=>Dv
 |n+1,i,h,j,b,c=>by
  simp only[MJ]at h;split at h
  .rename_i a;by_cases e:j=i
   .rw[e];exact a
   .exact b6a h j Dv Dv
  .rename_i a;exact absurd h a
structure Cl where
 x:Int
 y:Int
 q:Int
 deriving DecidableEq
def DE:RT Cl:=⟨3,λc=>[.int .i64 c.x,.int .i64 c.y,.int .u8 c.q],λl=>match l with
 | [.int _ a,.int _ b,.int _ c]=>⟨a,b,c⟩
 |_=>⟨0,0,0⟩,⟨0,0,0⟩,λ_=>rfl⟩
structure Stk where
 c:Cl
 l:List Int
 deriving DecidableEq
def Tq:List SV->Stk
 | [.int _ a,.int _ b,.int _ c,s]=>⟨⟨a,b,c⟩,match AC.as s with|some (n,f)=>AC.lst n f|none=>[]⟩
 |_=>⟨⟨0,0,0⟩,[]⟩
def AA:RT Stk:=⟨4,λs=>[.int .i64 s.c.x,.int .i64 s.c.y,.int .u8 s.c.q,.sl 1 s.l.length (AC.row s.l) none],Tq,⟨⟨0,0,0⟩,[]⟩,λs=>by have:AC.lst s.l.length (AC.row s.l)=s.l:=RT.lst_row _ _;show Tq [.int .i64 s.c.x,.int .i64 s.c.y,.int .u8 s.c.q,.sl 1 s.l.length (AC.row s.l) none]=s;have h:AC.as (.sl 1 s.l.length (AC.row s.l) none)=some (s.l.length,AC.row s.l):=rfl;simp only[Tq,h,this]⟩
def RT.isL{α:Type}(R:RT α)(n:Nat)(f:Nat->List SV):Prop:=∀i,i<n->FU (f i) (R.sv (R.of (f i)))
theorem RT.isL_row{α:Type}(R:RT α)(l:List α):R.isL l.length (R.row l):=λi _=>.inl (by simp only[RT.row,R.ok])
theorem RT.isL_of{α:Type}(R:RT α){n:Nat}{f:Nat->List SV}(l:List α)(_:n=l.length)(h:∀i,i<n->f i=R.row l i):R.isL n f:=λi a=>.inl (by rw[h i a];simp only[RT.row,R.ok])
theorem RT.as_leL{α:Type}(R:RT α){s:SV}{n:Nat}{f:Nat->List SV}(h:R.as s=some (n,f))(a:R.isL n f):SV.le0 s (.sl R.sz (R.lst n f).length (R.row (R.lst n f)) none):=by
 unfold RT.as at h;split at h
 .split at h
  .rename_i b;cases h;simp only[SV.le0,GL,RT.lst_length,b,Ni];refine⟨J5,λi hi=> ?_⟩;have:=a i hi;have e:R.row (R.lst n f) i=R.sv (R.of (f i)):=Hx;rw[e];exact this
  .cases h
 .cases h;simp[SV.le0,RT.lst,GL]
 .cases h
def AY(l:List Int)(v:Int):Int:=match l.findIdx? (λx=>decide (x=v))with
 |some i=>i
 |none=> -1
theorem b4j{l:List Int}{v:Int}{i:Nat}(hi:i<l.length)(h:∀j,j<i->l.getD j 0≠v)(a:l.getD i 0=v):AY l v=i:=by
 have:l.findIdx? (λx=>decide (x=v))=some i:=by
  rw[Kd];refine⟨hi,?_,λj b=> ?_⟩
  .simpa[Ix,hi]using a
  .have:=h j b;have c:j<l.length:=Dv;simpa[Ix,c]using this
 simp[AY,this]
theorem c2s{l:List Int}{v:Int}(h:∀j,j<l.length->l.getD j 0≠v):AY l v= -1:=by
 have:l.findIdx? (λx=>decide (x=v))=none:=by rw[L5];intro x hx;obtain⟨j,a,rfl⟩:=Jw.1 hx;have:=h j a;simpa[Ix,a]using this
 simp[AY,this]
theorem d2v(l:List Int)(v:Int): -1<=AY l v/\AY l v<l.length:=by
 unfold AY;cases h:l.findIdx? (λx=>decide (x=v))with
 |none=>simp only;omega
 |some i=>
  obtain⟨hi,_⟩:=Kd.1 h;simp only;omega
def b9j:AM
 | [x,.int .i64 v]=>match AC.as x with
   |some (n,f)=>some (AC.isL n f/\n<=100000,.int .i64 (AY (AC.lst n f) v))
   |none=>none
 |_=>none
def d1i:Fam:=⟨List Int×Int,λ(l,v)=>[.sl 1 l.length (AC.row l) none,.int .i64 v],λ(l,_)=>l.length<=100000,λ(l,v)=>.int .i64 (AY l v)⟩
def g11:List Int×Int->Nat->Option Inv
 |(l,v),2=>some {β:=Nat,ok:=λi=>i<=l.length/\∀j,j<i->l.getD j 0≠v,st:=λi=>⟨[⟨8,none,.int .i64 i⟩,⟨7,none,.int .i64 l.length⟩,⟨1,none,.int .i64 v⟩,⟨0,none,.sl 1 l.length (AC.row l) none⟩],[]⟩,μ:=λi=>l.length-i}
 |_,_=>none
theorem g1k:PS 151 b9j:=by
 refine con [] Dx d1i g11 b9j ?_ ?_ Tryz.func151 Dw Dw Dw ?_
 .intro args pre s h a;unfold b9j at h;split at h
  .split at h
   .rename_i n f hx;cases h;exact⟨(AC.lst n f,_),⟨Hl (AC.as_leL hx a.1),E4,J5⟩,by simp only[d1i,RT.lst_length];exact a.2,rfl⟩
   .cases h
  .cases h
 .exact Bz
 .rintro⟨l,v⟩ a;replace a:l.length<=100000:=a;refine X0 _ ?_;(repeat' first|constructor|intro h)<;>refine Lm ?_
  refine⟨(0:Nat),⟨Je _,λj g=>Dv⟩,?_,?_⟩
  .exact X0c
  .intro i k;obtain⟨dv,c⟩:=k;refine X0 _ ?_;(repeat' first|constructor|intro h)<;>refine Lm ?_
   all_goals(try simp only[Ia]at*)
   all_goals(first
    |exact Ap
    |(refine(b4j Dv c ?_).symm;exact(by assumption:v=l.getD i AC.d).symm)
    |(refine⟨i+1,⟨Dv,λj g=> ?_⟩,E7,?_⟩)
    |(refine(c2s λj g=> ?_).symm;exact c j Dv)
    |skip)
   .by_cases e:j<i
    .exact c j e
    .have:j=i:=Dv;subst this;have q:¬v=l.getD j AC.d:=Dz;exact λe=>q e.symm
   .exact X0d
def c0j:AM
 | [.agg [.int .i64 a,.int .i64 b,.int .u8 c,x]]=>match AC.as x with
   |some (n,f)=>some (AC.isL n f/\n<=100000,.agg [.int .i64 a,.int .i64 b,.int .u8 c,.sl 1 (AC.lst n f).length (AC.row (AC.lst n f)) (some (AC.lst n f).length)])
   |none=>none
 |_=>none
def d53:Fam:=⟨Stk,λs=>[.agg [.int .i64 s.c.x,.int .i64 s.c.y,.int .u8 s.c.q,.sl 1 s.l.length (AC.row s.l) none]],λs=>s.l.length<=100000,λs=>.agg [.int .i64 s.c.x,.int .i64 s.c.y,.int .u8 s.c.q,.sl 1 s.l.length (AC.row s.l) (some s.l.length)]⟩
theorem f7q:PS 87 c0j:=by
 refine con [(131,b19),(130,Wb)] (by simpa using⟨c1h,c0k⟩) d53 (λ_ _=>none) c0j ?_ ?_ Tryz.func87 Dw Dw Dw ?_
 .intro args pre s h d;unfold c0j at h;split at h
  .split at h
   .rename_i a b c y q n f hx;cases h;exact⟨⟨⟨a,b,c⟩,AC.lst n f⟩,⟨⟨E1,E1,E1,AC.as_leL hx d.1,J5⟩,J5⟩,by simp only[d53,RT.lst_length];exact d.2,rfl⟩
   .cases h
  .cases h
 .exact C0
 .rintro s d;replace d:s.l.length<=100000:=d;exact X0d
def KJ(x:SV):Option (Prop×List Stk):=(AA.as x).map λq=>(AA.isL q.1 q.2/\q.1<=100000/\∀s∈AA.lst q.1 q.2,s.l.length<=100000,AA.lst q.1 q.2)
def FN(L:List Stk):Prop:=L.length<=100000/\∀s∈L,s.l.length<=100000
def DJ(L:List Stk):SV:=.sl 4 L.length (AA.row L) none
theorem Oc{x:SV}{q:Prop}{L:List Stk}(h:KJ x=some (q,L))(hq:q):x.le2 (DJ L)/\FN L:=by unfold KJ at h;simp only[Ic]at h;obtain⟨⟨n,f⟩,hx,rfl,rfl⟩:=h;exact⟨Hl (AA.as_leL hx hq.1),H5,hq.2.2⟩
theorem NT(L:List Stk)(h:FN L):AA.isL L.length (AA.row L)/\L.length<=100000/\∀s∈L,s.l.length<=100000:=⟨AA.isL_row L,h⟩
theorem LY(L:List Stk):AA.lst L.length (AA.row L)=L:=RT.lst_row AA L
theorem Pw{L:List Stk}(h:FN L)(i:Nat):(L.getD i AA.d).l.length<=100000:=by
 rw[Ix];cases hg:L[i]? with
 |none=>show 0<=_;omega
 |some s=>exact h.2 s (J6 hg)
def AF(L:List Stk)(c:Cl):List Int:=match L.find? (λs=>decide (s.c=c))with
 |some s=>s.l
 |none=>[]
theorem b44{L:List Stk}{c:Cl}{i:Nat}(hi:i<L.length)(h:∀j,j<i->(L.getD j AA.d).c≠c)(hc:(L.getD i AA.d).c=c):AF L c=(L.getD i AA.d).l:=by
 have:L.find? (λs=>decide (s.c=c))=some (L.getD i AA.d):=by rw[List.find?_eq_some_iff_getElem];refine⟨Ep,i,hi,by simp[hi],λj a=> ?_⟩;have:=h j a;have b:j<L.length:=Dv;simpa[Ix,b]using this
 simp[AF,this]
theorem c1x{L:List Stk}{c:Cl}(h:∀j,j<L.length->(L.getD j AA.d).c≠c):AF L c=[]:=by
 have:L.find? (λs=>decide (s.c=c))=none:=by rw[List.find?_eq_none];intro s hs;obtain⟨j,a,rfl⟩:=Jw.1 hs;have:=h j a;simpa[Ix,a]using this
 simp[AF,this]
theorem clEq(a b:Cl):(decide (a.x=b.x)&&(decide (a.y=b.y)&&(decide (a.q=b.q)&&true)))=decide (a=b):=by cases a;cases b;simp[Bool.decide_and]
def f0j:AM
 | [x,.agg [.int .i64 a,.int .i64 b,.int .u8 c]]=>(KJ x).map λq=>(q.1,.sl 1 (AF q.2 ⟨a,b,c⟩).length (AC.row (AF q.2 ⟨a,b,c⟩)) none)
 |_=>none
def FStAt:Fam:=⟨List Stk×Cl,λ(L,c)=>[DJ L,.agg [.int .i64 c.x,.int .i64 c.y,.int .u8 c.q]],λ(L,_)=>FN L,λ(L,c)=>.sl 1 (AF L c).length (AC.row (AF L c)) none⟩
def IStAt:List Stk×Cl->Nat->Option Inv
 |(L,c),2=>some {β:=Nat,ok:=λi=>i<=L.length/\∀j,j<i->(L.getD j AA.d).c≠c,st:=λi=>⟨[⟨9,none,.int .i64 i⟩,⟨8,none,.int .i64 L.length⟩,⟨7,none,DJ L⟩,⟨3,none,.own 0 0⟩],[.cells 39 [.int .i64 c.x,.int .i64 c.y,.int .u8 c.q]]⟩,μ:=λi=>L.length-i}
 |_,_=>none
theorem pStAt:PS 111 f0j:=by
 refine con [(131,b19),(130,Wb)] (by simpa using⟨c1h,c0k⟩) FStAt IStAt f0j ?_ ?_ Tryz.func111 Dw Dw Dw ?_
 .intro args pre s h d;unfold f0j at h;split at h
  .rename_i x a b c;simp only[Ic]at h;obtain⟨⟨q,L⟩,hx,rfl,rfl⟩:=h;obtain⟨l,m⟩:=Oc hx d;exact⟨(L,⟨a,b,c⟩),⟨l,Eb,J5⟩,m,rfl⟩
  .cases h
 .exact Bz
 .rintro⟨L,c⟩ d;replace d:FN L:=d;refine X0 _ ?_;(repeat' first|constructor|intro h)<;>refine Lm ?_
  refine⟨(0:Nat),⟨Je _,λj k=>Dv⟩,?_,?_⟩
  .exact X0c
  .intro i n;obtain⟨dv,f⟩:=n;have hg:=Pw d i;have hl:=d.1;refine X0 _ ?_;(repeat' first|constructor|intro h)<;>refine Lm ?_
   all_goals(try simp only[Ia,clEq]at*)
   all_goals(first
    |exact Ap
    |(rw[b44 Dv f Dz];done)
    |(intro j k;rw[b44 Dv f Dz];done)
    |(refine⟨i+1,⟨Dv,λj k=> ?_⟩,E7,?_⟩)
    |(rw[c1x λj k=>f j Dv];rfl)
    |skip)
   .by_cases e:j<i
    .exact f j e
    .have:j=i:=Dv;subst this;assumption
   .exact X0d
def FY(k C:Int):Int:=if 1<=k/\k<=4/\ -4096<=C/\C<=4096 then 0 else 1
def XR:AM
 | [.agg [.int .u8 k,.int .i64 C]]=>some (True,.int .i64 (FY k C))
 |_=>none
def c5x:Fam:=⟨Int×Int,λ(k,C)=>[.agg [.int .u8 k,.int .i64 C]],λ(_,_)=>True,λ(k,C)=>.int .i64 (FY k C)⟩
theorem c7b:PS 86 XR:=by
 refine con [] Dx c5x (λ_ _=>none) XR ?_ ?_ Tryz.func86 Dw Dw Dw ?_
 .intro args pre s h a;unfold XR at h;split at h
  .rename_i k C;cases h;exact⟨(k,C),by simp[c5x,BM,SV.le2,SV.le1,BH,SV.le0],a,rfl⟩
  .cases h
 .exact C0
 .rintro⟨k,C⟩ a;replace a:True:=a;refine X0 _ ?_;(repeat' first|constructor|intro h)<;>refine Lm ?_
  all_goals(simp[FY]at h⊢;omega)
def LP(x y:Int):Int:=if -65536<=x/\x<=65536/\ -65536<=y/\y<=65536 then 0 else 1
def b4d:AM
 | [.agg [.int .i64 x,.int .i64 y]]=>some (True,.int .i64 (LP x y))
 |_=>none
def c6s:Fam:=⟨Int×Int,λ(x,y)=>[.agg [.int .i64 x,.int .i64 y]],λ(_,_)=>True,λ(x,y)=>.int .i64 (LP x y)⟩
theorem f2q:PS 233 b4d:=by
 refine con [] Dx c6s (λ_ _=>none) b4d ?_ ?_ Tryz.func233 Dw Dw Dw ?_
 .intro args pre s h a;unfold b4d at h;split at h
  .rename_i x y;cases h;exact⟨(x,y),by simp[c6s,BM,SV.le2,SV.le1,BH,SV.le0],a,rfl⟩
  .cases h
 .exact C0
 .rintro⟨x,y⟩ a;replace a:True:=a;refine X0 _ ?_;(repeat' first|constructor|intro h)<;>refine Lm ?_
  all_goals(simp[LP]at h⊢;omega)
theorem c9w{k C:Int}(h:FY k C=0):1<=k/\k<=4/\ -4096<=C/\C<=4096:=by
 unfold FY at h;split at h
 .assumption
 .cases h
theorem d0e{x y:Int}(h:LP x y=0): -65536<=x/\x<=65536/\ -65536<=y/\y<=65536:=by
 unfold LP at h;split at h
 .assumption
 .cases h
def tA(t:Int):Int:=tb [1,0,-1,0,-1,0,1,0] t.toNat
def tB(t:Int):Int:=tb [0,-1,0,1,0,-1,0,1] t.toNat
def tC(t:Int):Int:=tb [0,1,0,-1,0,-1,0,1] t.toNat
def tD(t:Int):Int:=tb [1,0,-1,0,1,0,-1,0] t.toNat
def FE(a:Int):Prop:= -1<=a/\a<=1
theorem c7x{t:Int}(a:0<=t)(h1:t<8):FE (tA t)/\FE (tB t)/\FE (tC t)/\FE (tD t):=by
 have:∀q:Nat,q<8->FE (tA q)/\FE (tB q)/\FE (tC q)/\FE (tD q):=by unfold FE;decide
 have:=this t.toNat Dv;rwa[M9 a]at this
theorem So{a x:Int}(h:FE a):a*x=0\/a*x=x\/a*x= -x:=by have h1:=h.1;have h2:=h.2;have:a= -1\/a=0\/a=1:=Dv;rcases this with rfl|rfl|rfl<;>simp
def VK:AM
 | [.agg [.int .i64 a,.int .i64 b,.int .i64 c,.int .i64 d],.int .i64 x,.int .i64 y]=>some (FE a/\FE b/\FE c/\FE d/\ -1000000<=x/\x<=1000000/\ -1000000<=y/\y<=1000000,.tup [.int .i64 (a*x+b*y),.int .i64 (c*x+d*y)])
 |_=>none
def f5p:Fam:=⟨Int×Int×Int×Int×Int×Int,λ(a,b,c,d,x,y)=>[.agg [.int .i64 a,.int .i64 b,.int .i64 c,.int .i64 d],.int .i64 x,.int .i64 y],λ(a,b,c,d,x,y)=>FE a/\FE b/\FE c/\FE d/\ -1000000<=x/\x<=1000000/\ -1000000<=y/\y<=1000000,λ(a,b,c,d,x,y)=>.tup [.int .i64 (a*x+b*y),.int .i64 (c*x+d*y)]⟩
theorem d3z:PS 52 VK:=by
 refine con [] Dx f5p (λ_ _=>none) VK ?_ ?_ Tryz.func52 Dw Dw Dw ?_
 .intro args pre s h e;unfold VK at h;split at h
  .rename_i a b c d x y;cases h;exact⟨(a,b,c,d,x,y),by simp[f5p,BM,SV.le2,SV.le1,BH,SV.le0],e,rfl⟩
  .cases h
 .exact C1
 .rintro⟨a,b,c,d,x,y⟩ ⟨f,g,j,k,hx⟩;have e1:=So (x:=x) f;have e2:=So (x:=y) g;have e3:=So (x:=x) j;have e4:=So (x:=y) k;exact X0e
def b4a:AM
 | [.agg [.int .i64 a,.int .i64 b,.int .i64 c,.int .i64 d],.agg [.int .i64 p,.int .i64 q,.int .i64 r,.int .i64 s]]=>some ((FE a/\FE b/\FE c/\FE d)/\FE p/\FE q/\FE r/\FE s,.agg [.int .i64 (p*a+q*c),.int .i64 (p*b+q*d),.int .i64 (r*a+s*c),.int .i64 (r*b+s*d)])
 |_=>none
def c6k:Fam:=⟨Int×Int×Int×Int×Int×Int×Int×Int,λ(a,b,c,d,p,q,r,s)=>[.agg [.int .i64 a,.int .i64 b,.int .i64 c,.int .i64 d],.agg [.int .i64 p,.int .i64 q,.int .i64 r,.int .i64 s]],λ(a,b,c,d,p,q,r,s)=>(FE a/\FE b/\FE c/\FE d)/\FE p/\FE q/\FE r/\FE s,λ(a,b,c,d,p,q,r,s)=>.agg [.int .i64 (p*a+q*c),.int .i64 (p*b+q*d),.int .i64 (r*a+s*c),.int .i64 (r*b+s*d)]⟩
theorem d7y:PS 120 b4a:=by
 refine con [(52,VK)] (by simpa using d3z) c6k (λ_ _=>none) b4a ?_ ?_ Tryz.func120 Dw Dw Dw ?_
 .intro args pre s h e;unfold b4a at h;split at h
  .rename_i a b c d p q r s;cases h;exact⟨(a,b,c,d,p,q,r,s),by simp[c6k,BM,SV.le2,SV.le1,BH,SV.le0],e,rfl⟩
  .cases h
 .exact Bz
 .rintro⟨a,b,c,d,p,q,r,s⟩ ⟨⟨ha,hb,hc,hd⟩,f,g,j,hS⟩;refine X0 _ ?_;(repeat' first|constructor|intro h)<;>refine Lm ?_
  all_goals(first|rfl|(simp only[FE]at*;refine⟨f,g,j,hS,?_⟩;omega))
def rowM(i:Nat)(a b c d:Int):Bool:=decide (tb [1,0,-1,0,-1,0,1,0] i=a)&&(decide (tb [0,-1,0,1,0,-1,0,1] i=b)&&(decide (tb [0,1,0,-1,0,-1,0,1] i=c)&&(decide (tb [1,0,-1,0,1,0,-1,0] i=d)&&true)))
def Ry(l:List Nat)(a b c d:Int):Int:=match l with
 | []=>0
 |i::l=>bif rowM i a b c d then i else Ry l a b c d
def numM(a b c d:Int):Int:=Ry [0,1,2,3,4,5,6,7] a b c d
def d9k:SV:=.agg (QS 0++QS 1++QS 2++QS 3++QS 4++QS 5++QS 6++QS 7)
def INum:Int×Int×Int×Int->Nat->Option Inv
 |(a,b,c,d),2=>some {β:=Nat,ok:=λi=>i<=8/\numM a b c d=Ry ([0,1,2,3,4,5,6,7].drop i) a b c d,st:=λi=>⟨[⟨6,none,.int .i64 i⟩,⟨5,none,d9k⟩,⟨2,none,.int .u8 0⟩,⟨1,none,.own 0 0⟩],[.cells 119 [.int .i64 a,.int .i64 b,.int .i64 c,.int .i64 d]]⟩,μ:=λi=>8-i}
 |_,_=>none
theorem Rq(i:Nat)(l:List Nat)(a b c d:Int)(h:rowM i a b c d=false):Ry (i::l) a b c d=Ry l a b c d:=by rw[Ry,h,cond_false]
theorem f6s(i:Nat)(l:List Nat)(a b c d:Int)(h:rowM i a b c d=true):Ry (i::l) a b c d=i:=by rw[Ry,h,Mz]
def c06:AM
 | [.agg [.int .i64 a,.int .i64 b,.int .i64 c,.int .i64 d]]=>some (True,.int .u8 (numM a b c d))
 |_=>none
def d3u:Fam:=⟨Int×Int×Int×Int,λ(a,b,c,d)=>[.agg [.int .i64 a,.int .i64 b,.int .i64 c,.int .i64 d]],λ(_,_,_,_)=>True,λ(a,b,c,d)=>.int .u8 (numM a b c d)⟩
theorem f8e:PS 54 c06:=by
 refine con [] Dx d3u INum c06 ?_ ?_ Tryz.func54 Dw Dw Dw ?_
 .intro args pre s h f;unfold c06 at h;split at h
  .rename_i a b c d;cases h;exact⟨(a,b,c,d),by simp[d3u,BM,SV.le2,SV.le1,BH,SV.le0],f,rfl⟩
  .cases h
 .exact C0
 .rintro⟨a,b,c,d⟩ f;replace f:True:=f;refine X0 _ ?_;(repeat' first|constructor|intro h)<;>refine Lm ?_
  refine⟨(0:Nat),⟨Dv,rfl⟩,?_,?_⟩
  .exact X0c
  .intro i j;obtain⟨dv,e⟩:=j;have:i=0\/i=1\/i=2\/i=3\/i=4\/i=5\/i=6\/i=7\/i=8:=Dv;rcases this with rfl|rfl|rfl|rfl|rfl|rfl|rfl|rfl|rfl;all_goals replace e:=e
   all_goals refine X0 _ ?_;(repeat' first|constructor|intro h)<;>refine Lm ?_
   all_goals(first
    |decide
    |exact A7
    |exact e.symm
    |exact(e.trans (f6s _ _ _ _ _ _ h)).symm
    |(first|refine⟨(1:Nat),⟨Dy,e.trans (Rq 0 _ _ _ _ _ h)⟩,Dy,?_⟩|refine⟨(2:Nat),⟨Dy,e.trans (Rq 1 _ _ _ _ _ h)⟩,Dy,?_⟩|refine⟨(3:Nat),⟨Dy,e.trans (Rq 2 _ _ _ _ _ h)⟩,Dy,?_⟩|refine⟨(4:Nat),⟨Dy,e.trans (Rq 3 _ _ _ _ _ h)⟩,Dy,?_⟩|refine⟨(5:Nat),⟨Dy,e.trans (Rq 4 _ _ _ _ _ h)⟩,Dy,?_⟩|refine⟨(6:Nat),⟨Dy,e.trans (Rq 5 _ _ _ _ _ h)⟩,Dy,?_⟩|refine⟨(7:Nat),⟨Dy,e.trans (Rq 6 _ _ _ _ _ h)⟩,Dy,?_⟩|refine⟨(8:Nat),⟨Dy,e.trans (Rq 7 _ _ _ _ _ h)⟩,Dy,?_⟩))
   all_goals exact X0f
def cT(t u:Int):Int:=numM (tA u*tA t+tB u*tC t) (tA u*tB t+tB u*tD t) (tC u*tA t+tD u*tC t) (tC u*tB t+tD u*tD t)
theorem cT_le{t u:Int}(a:0<=t)(h1:t<8)(k0:0<=u)(k1:u<8):0<=cT t u/\cT t u<8:=by
 have:∀q:Nat,q<8->∀r:Nat,r<8->0<=cT q r/\cT q r<8:=by decide +kernel
 have:=this t.toNat Dv u.toNat Dv;rwa[M9 a,M9 k0]at this
def b8r:AM
 | [.int .i64 n]=>some (True,.bool (or (decide (n< -16384)) (decide (16384<n))))
 |_=>none
def d32:Fam:=⟨Int,λn=>[.int .i64 n],λ_=>True,λn=>.bool (or (decide (n< -16384)) (decide (16384<n)))⟩
theorem f8a:PS 47 b8r:=by
 refine con [] Dx d32 (λ_ _=>none) b8r ?_ ?_ Tryz.func47 Dw Dw Dw ?_
 .intro args pre s h a;unfold b8r at h;split at h
  .rename_i n;cases h;exact⟨n,by simp[d32,BM,SV.le2,SV.le1,SV.le0],a,rfl⟩
  .cases h
 .exact C0
 .intro(n:Int) a;replace a:True:=a;refine X0 _ ?_;(repeat' first|constructor|intro h)<;>refine Lm ?_
  all_goals rfl
def DV(t x y:Int):Int:=if t<8/\ -16384<=x/\x<=16384/\ -16384<=y/\y<=16384/\(x+y)%2=0 then 0 else 1
theorem TW{t x y:Int}(h:DV t x y=0):t<8/\ -16384<=x/\x<=16384/\ -16384<=y/\y<=16384/\(x+y)%2=0:=by
 unfold DV at h;split at h
 .assumption
 .cases h
theorem tmod2(n:Int):n.tmod 2=0↔n%2=0:=by rw[<-Int.dvd_iff_emod_eq_zero,Int.dvd_iff_tmod_eq_zero]
def Qh:AM
 | [.agg [.int .u8 t,.int .i64 x,.int .i64 y]]=>some (0<=t/\t<=255,.int .i64 (DV t x y))
 |_=>none
def c6h:Fam:=⟨Int×Int×Int,λ(t,x,y)=>[.agg [.int .u8 t,.int .i64 x,.int .i64 y]],λ(t,_,_)=>0<=t/\t<=255,λ(t,x,y)=>.int .i64 (DV t x y)⟩
theorem UJ:PS 17 Qh:=by
 refine con [(47,b8r)] (by simpa using f8a) c6h (λ_ _=>none) Qh ?_ ?_ Tryz.func17 Dw Dw Dw ?_
 .intro args pre s h a;unfold Qh at h;split at h
  .rename_i t x y;cases h;exact⟨(t,x,y),by simp[c6h,BM,SV.le2,SV.le1,BH,SV.le0],a,rfl⟩
  .cases h
 .exact C0
 .rintro⟨t,x,y⟩ a;replace a:0<=t/\t<=255:=a;refine X0 _ ?_;(repeat' first|constructor|intro h)<;>refine Lm ?_
  all_goals(try(simp only[Ii,Ib,Ig]at*))
  all_goals(first
   |decide
   |exact A7
   |(unfold DV;rw[if_neg Dv])
   |(intro _;decide)
   |(intros;simp only[AE];omega)
   |(intros;unfold DV;rw[if_neg Dv])
   |(have e:=tmod2 (x+y);unfold DV;rw[if_pos Dv])
   |(have e:=tmod2 (x+y);unfold DV;rw[if_neg Dv]))
def MP(t x y:Int):Int:=if DV t x y=0 then 0 else 3
def keep(e v:Int):Int:=if e=0 then v else 0
def b4g:AM
 | [.agg [.int .u8 t,.int .i64 x,.int .i64 y]]=>some (0<=t/\t<=255,.tup [.agg [.int .u8 (keep (MP t x y) t),.int .i64 (keep (MP t x y) x),.int .i64 (keep (MP t x y) y)],.int .i64 (MP t x y)])
 |_=>none
def c83:Fam:=⟨Int×Int×Int,λ(t,x,y)=>[.agg [.int .u8 t,.int .i64 x,.int .i64 y]],λ(t,_,_)=>0<=t/\t<=255,λ(t,x,y)=>.tup [.agg [.int .u8 (keep (MP t x y) t),.int .i64 (keep (MP t x y) x),.int .i64 (keep (MP t x y) y)],.int .i64 (MP t x y)]⟩
theorem f0z:PS 53 b4g:=by
 refine con [(17,Qh)] (by simpa using UJ) c83 (λ_ _=>none) b4g ?_ ?_ Tryz.func53 Dw Dw Dw ?_
 .intro args pre s h a;unfold b4g at h;split at h
  .rename_i t x y;cases h;exact⟨(t,x,y),by simp[c83,BM,SV.le2,SV.le1,BH,SV.le0],a,rfl⟩
  .cases h
 .exact C0
 .rintro⟨t,x,y⟩ a;replace a:0<=t/\t<=255:=a;refine X0 _ ?_;(repeat' first|constructor|intro h)<;>refine Lm ?_
  all_goals(try exact a)
  all_goals(simp only[Ib,Ig]at h)
  all_goals(simp[keep,MP,h])
def c69:AM
 | [.agg [.int .u8 t,.int .i64 x,.int .i64 y]]=>some (0<=t/\t<=255,.bool (and (decide (DV t x y=0)) (decide (4<=t))))
 |_=>none
def f3a:Fam:=⟨Int×Int×Int,λ(t,x,y)=>[.agg [.int .u8 t,.int .i64 x,.int .i64 y]],λ(t,_,_)=>0<=t/\t<=255,λ(t,x,y)=>.bool (and (decide (DV t x y=0)) (decide (4<=t)))⟩
theorem pFlips:PS 45 c69:=by
 refine con [(17,Qh)] (by simpa using UJ) f3a (λ_ _=>none) c69 ?_ ?_ Tryz.func45 Dw Dw Dw ?_
 .intro args pre s h a;unfold c69 at h;split at h
  .rename_i t x y;cases h;exact⟨(t,x,y),by simp[f3a,BM,SV.le2,SV.le1,BH,SV.le0],a,rfl⟩
  .cases h
 .exact C0
 .rintro⟨t,x,y⟩ a;replace a:0<=t/\t<=255:=a;refine X0 _ ?_;(repeat' first|constructor|intro h)<;>refine Lm ?_
  all_goals(first|exact a|rfl|skip)
def b31:AM
 | []=>some (True,.agg [.int .u8 0,.int .i64 0,.int .i64 0])
 |_=>none
def d14:Fam:=⟨Unit,λ_=>[],λ_=>True,λ_=>.agg [.int .u8 0,.int .i64 0,.int .i64 0]⟩
theorem d7f:PS 72 b31:=by
 refine con [] Dx d14 (λ_ _=>none) b31 ?_ ?_ Tryz.func72 Dw Dw Dw ?_
 .intro args pre s h a;unfold b31 at h;split at h
  .cases h;exact⟨(),J5,J5,rfl⟩
  .cases h
 .intro i;show 0<=_;decide
 .intro i a;refine X0 _ ?_;(repeat' first|constructor|intro h)<;>refine Lm ?_
theorem d8w(k C:Int):FY k C=0\/FY k C=1:=by unfold FY;split<;>simp
def Og(k:Int):Int:=if k=1 then 4 else if k=2 then 6 else if k=3 then 5 else 7
def RE(k C:Int):Int:=if k=1 then 2*C else if k=2 then 0 else if k=3 then C else -C
def Ri(k C:Int):Int:=if k=1 then 0 else if k=2 then 2*C else C
def d6s:AM
 | [.agg [.int .u8 k,.int .i64 C]]=>some (True,.tup [.agg [.int .u8 (keep (FY k C) (Og k)),.int .i64 (keep (FY k C) (RE k C)),.int .i64 (keep (FY k C) (Ri k C))],.int .i64 (FY k C)])
 |_=>none
def FMvOf:Fam:=⟨Int×Int,λ(k,C)=>[.agg [.int .u8 k,.int .i64 C]],λ(_,_)=>True,λ(k,C)=>.tup [.agg [.int .u8 (keep (FY k C) (Og k)),.int .i64 (keep (FY k C) (RE k C)),.int .i64 (keep (FY k C) (Ri k C))],.int .i64 (FY k C)]⟩
theorem pMvOf:PS 55 d6s:=by
 refine con [(86,XR)] (by simpa using c7b) FMvOf (λ_ _=>none) d6s ?_ ?_ Tryz.func55 Dw Dw Dw ?_
 .intro args pre s h a;unfold d6s at h;split at h
  .rename_i k C;cases h;exact⟨(k,C),by simp[FMvOf,BM,SV.le2,SV.le1,BH,SV.le0],a,rfl⟩
  .cases h
 .exact C0
 .rintro⟨k,C⟩ a;replace a:True:=a;refine X0 _ ?_;(repeat' first|constructor|intro h)<;>refine Lm ?_
  all_goals(have e:=d8w k C;have e':=@c9w k C)
  all_goals(try simp only[AE])
  all_goals grind[keep,Og,RE,Ri]
def JW(t x y:Int):Int:=tA t*x+tB t*y
def JX(t x y:Int):Int:=tC t*x+tD t*y
def HF(t x y u z w:Int):Int:=if DV t x y=0/\DV u z w=0 then MP (cT t u) (JW u x y+z) (JX u x y+w)else 1
def Qp(t x y u z w:Int):Int:=keep (HF t x y u z w) (cT t u)
def Wv(t x y u z w:Int):Int:=keep (HF t x y u z w) (JW u x y+z)
def VJ(t x y u z w:Int):Int:=keep (HF t x y u z w) (JX u x y+w)
theorem c4y{t x y B:Int}(a:0<=t)(b:t<8)(a1: -B<=x)(a2:x<=B)(b1: -B<=y)(b2:y<=B): -(2*B)<=JW t x y/\JW t x y<=2*B/\ -(2*B)<=JX t x y/\JX t x y<=2*B:=by obtain⟨c,d,e,f⟩:=c7x a b;have e1:=So (x:=x) c;have e2:=So (x:=y) d;have e3:=So (x:=x) e;have e4:=So (x:=y) f;unfold JW JX;omega
def VP:AM
 | [.agg [.int .u8 t,.int .i64 x,.int .i64 y],.agg [.int .u8 u,.int .i64 z,.int .i64 w]]=>some ((0<=t/\t<=255)/\0<=u/\u<=255,.tup [.agg [.int .u8 (Qp t x y u z w),.int .i64 (Wv t x y u z w),.int .i64 (VJ t x y u z w)],.int .i64 (HF t x y u z w)])
 |_=>none
def FThen:Fam:=⟨Int×Int×Int×Int×Int×Int,λ(t,x,y,u,z,w)=>[.agg [.int .u8 t,.int .i64 x,.int .i64 y],.agg [.int .u8 u,.int .i64 z,.int .i64 w]],λ(t,_,_,u,_,_)=>(0<=t/\t<=255)/\0<=u/\u<=255,λ(t,x,y,u,z,w)=>.tup [.agg [.int .u8 (Qp t x y u z w),.int .i64 (Wv t x y u z w),.int .i64 (VJ t x y u z w)],.int .i64 (HF t x y u z w)]⟩
theorem f8k : PS 83 VP := by
  refine con [(17, Qh), (52, VK), (120, b4a), (54, c06), (53, b4g)] (by simpa using ⟨UJ, d3z, d7y, f8e, f0z⟩) FThen (λ_ _ => none) VP ?_ ?_ Tryz.func83 Dw Dw Dw ?_
  · intro args pre s h a
    unfold VP at h
    split at h
    · rename_i t x y u z w; cases h; exact ⟨(t, x, y, u, z, w), by simp [FThen, BM, SV.le2, SV.le1, BH, SV.le0], a, rfl⟩
    · cases h
  · exact Bz
  · rintro ⟨t, x, y, u, z, w⟩ a
    replace a : (0 ≤ t ∧ t ≤ 255) ∧ 0 ≤ u ∧ u ≤ 255 := a
    refine AB _ ?_; (repeat' first | constructor | refine Iu λhu => ?_ | intro h)<;>refine Lm ?_
    all_goals (first
      | exact a.1
      | exact λ_ => a.2
      | (have e : HF t x y u z w = 1 := by grind [HF]
         simp [Qp, Wv, VJ, keep, e]; done)
      | (rw [Kk] at h
         have f : DV t x y = 0 := by simpa using h.1
         have g : DV u z w = 0 := by simpa using h.2
         have j := TW f
         have d := TW g
         have r := c4y (t := u) (x := x) (y := y) (B := 16384) a.2.1 d.1 Dv Dv Dv Dv
         have c := cT_le a.1.1 j.1 a.2.1 d.1
         have k := c7x a.1.1 j.1
         have b := c7x a.2.1 d.1
         first
         | (constructor <;> omega)
         | exact ⟨b.1, b.2.1, b.2.2.1, b.2.2.2, Dv, Dv, Dv, Dv⟩
         | exact ⟨k, b⟩
         | (change AE .i64 (JW u x y + z); simp only [AE]; omega)
         | (change AE .i64 (JX u x y + w); simp only [AE]; omega)
         | (refine ⟨c.1, ?_⟩; change cT t u ≤ 255; omega)
         | (have e : HF t x y u z w = MP (cT t u) (JW u x y + z) (JX u x y + w) := by unfold HF; rw [if_pos ⟨f, g⟩]
            first | exact e.symm | (unfold Qp; rw [e]; rfl) | (unfold Wv; rw [e]; rfl) | (unfold VJ; rw [e]; rfl)))
      | skip)
def QH(t x y a b:Int):Int:=if DV t x y=0/\LP a b=0 then(if LP (JW t a b+2*x) (JX t a b+2*y)=0 then 0 else 3)else 1
def OA(t x y a b:Int):Int:=keep (QH t x y a b) (JW t a b+2*x)
def Nw(t x y a b:Int):Int:=keep (QH t x y a b) (JX t a b+2*y)
def b4s:AM
 | [.agg [.int .u8 t,.int .i64 x,.int .i64 y],.agg [.int .i64 a,.int .i64 b]]=>some (0<=t/\t<=255,.tup [.agg [.int .i64 (OA t x y a b),.int .i64 (Nw t x y a b)],.int .i64 (QH t x y a b)])
 |_=>none
def c81:Fam:=⟨Int×Int×Int×Int×Int,λ(t,x,y,a,b)=>[.agg [.int .u8 t,.int .i64 x,.int .i64 y],.agg [.int .i64 a,.int .i64 b]],λ(t,_,_,_,_)=>0<=t/\t<=255,λ(t,x,y,a,b)=>.tup [.agg [.int .i64 (OA t x y a b),.int .i64 (Nw t x y a b)],.int .i64 (QH t x y a b)]⟩
theorem f07 : PS 197 b4s := by
  refine con [(17, Qh), (52, VK), (233, b4d)] (by simpa using ⟨UJ, d3z, f2q⟩) c81 (λ_ _ => none) b4s ?_ ?_ Tryz.func197 Dw Dw Dw ?_
  · intro args pre s h c
    unfold b4s at h
    split at h
    · rename_i t x y a b; cases h; exact ⟨(t, x, y, a, b), by simp [c81, BM, SV.le2, SV.le1, BH, SV.le0], c, rfl⟩
    · cases h
  · exact Bz
  · rintro ⟨t, x, y, a, b⟩ c
    replace c : 0 ≤ t ∧ t ≤ 255 := c
    refine AB _ ?_; (repeat' first | constructor | refine Iu λhu => ?_ | intro h)<;>refine Lm ?_
    all_goals (first
      | exact c
      | (have e : QH t x y a b = 1 := by grind [QH]
         simp [OA, Nw, keep, e]; done)
      | (have f : (!decide (DV t x y = 0) || !decide (LP a b = 0)) = false := by assumption
         rw [Kk] at f
         have g : DV t x y = 0 := by simpa using f.1
         have j : LP a b = 0 := by simpa using f.2
         have k := TW g
         have m2 := d0e j
         have r := c4y (t := t) (x := a) (y := b) (B := 65536) c.1 k.1 Dv Dv Dv Dv
         have d := c7x c.1 k.1
         first
         | (constructor <;> omega)
         | exact ⟨d.1, d.2.1, d.2.2.1, d.2.2.2, Dv, Dv, Dv, Dv⟩
         | (change AE .i64 (JW t a b + 2 * x); simp only [AE]; omega)
         | (change AE .i64 (JX t a b + 2 * y); simp only [AE]; omega)
         | exact A7
         | (have e : QH t x y a b = (if LP (JW t a b + 2 * x) (JX t a b + 2 * y) = 0 then 0 else 3) := by unfold QH; rw [if_pos ⟨g, j⟩]
            first
            | (have q : LP (JW t a b + 2 * x) (JX t a b + 2 * y) = 0 := by (change (!decide (LP (JW t a b + 2 * x) (JX t a b + 2 * y) = 0)) = false at h; simpa using h)
               rw [Iz q] at e
               simp only [OA, Nw, keep, e, Ke]; try rfl)
            | (have q : ¬ LP (JW t a b + 2 * x) (JX t a b + 2 * y) = 0 := by (change (!decide (LP (JW t a b + 2 * x) (JX t a b + 2 * y) = 0)) = true at h; simpa using h)
               rw [J3 q] at e
               simp [OA, Nw, keep, e]; done)))
      | skip)
def AV(W H:Int):Int:=if 1<=W/\1<=H/\W<=256/\H<=256/\W*H<=256 then 0 else 1
theorem c38{W H:Int}(c:1<=W)(d:1<=H)(e:W<=256)(f:H<=256):1<=W*H/\W*H<=65536:=by have a:1*1<=W*H:=Int.mul_le_mul c d Dv Dv;have b:W*H<=256*256:=Int.mul_le_mul e f Dv Dv;omega
def QF:AM
 | [.agg [.int .i64 W,.int .i64 H]]=>some (True,.int .i64 (AV W H))
 |_=>none
def b3x:Fam:=⟨Int×Int,λ(W,H)=>[.agg [.int .i64 W,.int .i64 H]],λ_=>True,λ(W,H)=>.int .i64 (AV W H)⟩
theorem Tl:PS 96 QF:=by
 refine con [] Dx b3x (λ_ _=>none) QF ?_ ?_ Tryz.func96 Dw Dw Dw ?_
 .intro args pre s h hp;unfold QF at h;split at h
  .rename_i W H;cases h;exact⟨(W,H),by simp[b3x,BM,SV.le2,SV.le1,BH,SV.le0],J5,rfl⟩
  .cases h
 .exact C0
 .rintro⟨W,H⟩-;refine X0 _ ?_;(repeat' first|constructor|intro h)<;>refine Lm ?_
  .intro h;simp at h;have:=c38 (W:=W) (H:=H) Dv Dv Dv Dv;simp only[AE];omega
  .simp[AV]at h⊢;omega
  .simp[AV]at h⊢;omega
def Se(W H i:Int):Bool:=decide (0<=i)&&decide (i<4*W*H)
def kHas:AM
 | [.agg [.int .i64 W,.int .i64 H],.int .i64 i]=>some (AV W H=0,.bool (Se W H i))
 |_=>none
def FHas:Fam:=⟨Int×Int×Int,λ(W,H,i)=>[.agg [.int .i64 W,.int .i64 H],.int .i64 i],λ(W,H,_)=>AV W H=0,λ(W,H,i)=>.bool (Se W H i)⟩
theorem Qa{W H:Int}(h:AV W H=0):1<=W/\1<=H/\W<=256/\H<=256/\1<=W*H/\W*H<=256/\4*W*H=4*(W*H):=by
 unfold AV at h;split at h
 .rename_i e;obtain⟨a,b,c,d,f⟩:=e;have:=c38 a b c d;exact⟨a,b,c,d,this.1,f,Li _ _ _⟩
 .cases h
theorem pHas:PS 163 kHas:=by
 refine con [] Dx FHas (λ_ _=>none) kHas ?_ ?_ Tryz.func163 Dw Dw Dw ?_
 .intro args pre s h a;unfold kHas at h;split at h
  .rename_i W H i;cases h;exact⟨(W,H,i),by simp[FHas,BM,SV.le2,SV.le1,BH,SV.le0],a,rfl⟩
  .cases h
 .exact Bz
 .rintro⟨W,H,i⟩ a;obtain⟨h1,h2,h3,h4,h5,h6,h7⟩:=Qa a;refine X0 _ ?_;(repeat' first|constructor|intro h)<;>refine Lm ?_
  .intro _;simp only[AE];omega
  .intro _;simp only[AE];omega
  all_goals rfl
def Yi:AM
 | [.agg [.int .i64 W,.int .i64 _],.int .i64 i]=>some (1<=W/\W<=256/\0<=i/\i<=1024,.agg [.int .i64 (i/4%W),.int .i64 (i/4/W),.int .u8 (i%4)])
 |_=>none
def FCell:Fam:=⟨Int×Int×Int,λ(W,H,i)=>[.agg [.int .i64 W,.int .i64 H],.int .i64 i],λ(W,_,i)=>1<=W/\W<=256/\0<=i/\i<=1024,λ(W,_,i)=>.agg [.int .i64 (i/4%W),.int .i64 (i/4/W),.int .u8 (i%4)]⟩
theorem pCell:PS 164 Yi:=by
 refine con [] Dx FCell (λ_ _=>none) Yi ?_ ?_ Tryz.func164 Dw Dw Dw ?_
 .intro args pre s h b;unfold Yi at h;split at h
  .rename_i W H i;cases h;exact⟨(W,H,i),by simp[FCell,BM,SV.le2,SV.le1,BH,SV.le0],b,rfl⟩
  .cases h
 .exact Bz
 .rintro⟨W,H,i⟩ ⟨h1,h2,a,h4⟩;have c:i.tdiv 4=i/4:=Lc a;have d:i.tmod 4=i%4:=K3 a;have e:(i/4).tdiv W=i/4/W:=Lc Dv;have f:(i/4).tmod W=i/4%W:=K3 Dv;have a5:i/4/W<=i/4:=Int.ediv_le_self _ Dv;have a6:0<=i/4/W:=Int.ediv_nonneg Dv Dv;refine X0 _ ?_;(repeat' first|constructor|intro h)<;>refine Lm ?_
  all_goals(try simp only[c,d,e,f])
  all_goals(try simp only[AE])
  all_goals omega
def EY(X Y Q:Int):Int:=if -4096<=X/\X<=4096/\ -4096<=Y/\Y<=4096/\Q<=3 then 0 else 1
def Qu:AM
 | [.agg [.int .i64 X,.int .i64 Y,.int .u8 Q]]=>some (True,.int .i64 (EY X Y Q))
 |_=>none
def b55:Fam:=⟨Int×Int×Int,λ(X,Y,Q)=>[.agg [.int .i64 X,.int .i64 Y,.int .u8 Q]],λ_=>True,λ(X,Y,Q)=>.int .i64 (EY X Y Q)⟩
theorem Ux:PS 123 Qu:=by
 refine con [] Dx b55 (λ_ _=>none) Qu ?_ ?_ Tryz.func123 Dw Dw Dw ?_
 .intro args pre s h hp;unfold Qu at h;split at h
  .rename_i X Y Q;cases h;exact⟨(X,Y,Q),by simp[b55,BM,SV.le2,SV.le1,BH,SV.le0],J5,rfl⟩
  .cases h
 .exact C0
 .rintro⟨X,Y,Q⟩-;refine X0 _ ?_;(repeat' first|constructor|intro h)<;>refine Lm ?_
  .simp[EY]at h⊢;omega
  .simp[EY]at h⊢;omega
theorem TO{X Y Q:Int}(h:EY X Y Q=0): -4096<=X/\X<=4096/\ -4096<=Y/\Y<=4096/\Q<=3:=by
 unfold EY at h;split at h
 .assumption
 .cases h
def KW(W H i:Int):Int:=if AV W H=0 then if Se W H i=true then 0 else 7 else 1
def BZ(W H i:Int):Int:=if KW W H i=0 then i/4%W else 0
def Bl(W H i:Int):Int:=if KW W H i=0 then i/4/W else 0
def CB(W H i:Int):Int:=if KW W H i=0 then i%4 else 0
theorem b4i(W H:Int):AV W H=0\/AV W H=1:=by unfold AV;split<;>simp
def Vn:AM
 | [.agg [.int .i64 W,.int .i64 H],.int .i64 i]=>some (True,.tup [.agg [.int .i64 (BZ W H i),.int .i64 (Bl W H i),.int .u8 (CB W H i)],.int .i64 (KW W H i)])
 |_=>none
def b5p:Fam:=⟨Int×Int×Int,λ(W,H,i)=>[.agg [.int .i64 W,.int .i64 H],.int .i64 i],λ_=>True,λ(W,H,i)=>.tup [.agg [.int .i64 (BZ W H i),.int .i64 (Bl W H i),.int .u8 (CB W H i)],.int .i64 (KW W H i)]⟩
theorem b2b:PS 118 Vn:=by
 refine con [(96,QF),(163,kHas),(164,Yi)] (by simpa using⟨Tl,pHas,pCell⟩) b5p (λ_ _=>none) Vn ?_ ?_ Tryz.func118 Dw Dw Dw ?_
 .intro args pre s h hp;unfold Vn at h;split at h
  .rename_i W H i;cases h;exact⟨(W,H,i),by simp[b5p,BM,SV.le2,SV.le1,BH,SV.le0],J5,rfl⟩
  .cases h
 .exact Bz
 .rintro⟨W,H,i⟩-;refine X0 _ ?_;(repeat' first|constructor|intro h)<;>refine Lm ?_
  all_goals(try simp only[BZ,Bl,CB,KW])
  all_goals(try simp at h)
  all_goals(first|(simp[h];done)|skip)
  all_goals(try(rename_i a;simp at a;simp[h,a];done))
  .rw[J3 h];exact(b4i W H).resolve_left h
  .rename_i a;simp at a;obtain⟨h1,h2,h3,h4,h5,h6,h7⟩:=Qa a;simp[Se]at h;omega
def EK(Q e:Int):Int:=[tb [0,1,0,-1] Q.toNat,tb [0,0,0,0] Q.toNat,tb [0,0,0,0] Q.toNat].getD e.toNat 0
def EL(Q e:Int):Int:=[tb [-1,0,1,0] Q.toNat,tb [0,0,0,0] Q.toNat,tb [0,0,0,0] Q.toNat].getD e.toNat 0
def EN(Q e:Int):Int:=[tb [2,3,0,1] Q.toNat,tb [1,0,3,2] Q.toNat,tb [3,2,1,0] Q.toNat].getD e.toNat 0
def GJ(X Y Q e:Int):Int:=if EY X Y Q=0/\e<=2 then(if EY (EK Q e+X) (EL Q e+Y) (EN Q e)=0 then 0 else 3)else 1
def JM(X Y Q e:Int):Int:=if GJ X Y Q e=0 then EK Q e+X else 0
def JO(X Y Q e:Int):Int:=if GJ X Y Q e=0 then EL Q e+Y else 0
def IK(X Y Q e:Int):Int:=if GJ X Y Q e=0 then EN Q e else 0
theorem f5x{Q e:Int}(a:0<=Q)(h2:Q<=3)(b:0<=e)(h4:e<=2): -1<=EK Q e/\EK Q e<=1/\ -1<=EL Q e/\EL Q e<=1/\0<=EN Q e/\EN Q e<=3:=by have:∀q:Nat,q<4->∀e:Nat,e<3-> -1<=EK q e/\EK q e<=1/\ -1<=EL q e/\EL q e<=1/\0<=EN q e/\EN q e<=3:=Dy;have:=this Q.toNat Dv e.toNat Dv;rwa[M9 a,M9 b]at this
def Vx:AM
 | [.agg [.int .i64 X,.int .i64 Y,.int .u8 Q],.int .u8 e]=>some (0<=Q/\0<=e,.tup [.agg [.int .i64 (JM X Y Q e),.int .i64 (JO X Y Q e),.int .u8 (IK X Y Q e)],.int .i64 (GJ X Y Q e)])
 |_=>none
def b1c:Fam:=⟨Int×Int×Int×Int,λ(X,Y,Q,e)=>[.agg [.int .i64 X,.int .i64 Y,.int .u8 Q],.int .u8 e],λ(_,_,Q,e)=>0<=Q/\0<=e,
 λ(X,Y,Q,e)=>.tup [.agg [.int .i64 (JM X Y Q e),.int .i64 (JO X Y Q e),.int .u8 (IK X Y Q e)],.int .i64 (GJ X Y Q e)]⟩
theorem b05:PS 129 Vx:=by
 refine con [(123,Qu)] (by simpa using Ux) b1c (λ_ _=>none) Vx ?_ ?_ Tryz.func129 Dw Dw Dw ?_
 .intro args pre s h f;unfold Vx at h;split at h
  .rename_i X Y Q e;cases h;exact⟨(X,Y,Q,e),by simp[b1c,BM,SV.le2,SV.le1,BH,SV.le0],f,rfl⟩
  .cases h
 .exact Bz
 .rintro⟨X,Y,Q,e⟩ ⟨c,d⟩;refine X0 _ ?_;(repeat' first|constructor|intro h)<;>refine Lm ?_
  all_goals(try simp only[JM,JO,IK])
  all_goals(try(have a:GJ X Y Q e=1:=by simp[GJ];simp at h;omega);simp[a];done)
  .simp at h;have:=TO h.1;omega
  .simp at h;omega
  all_goals(try(change AE .i64 (EK Q e+X);simp at h;have:=TO h.1;have n:=f5x c Dv d Dv;simp only[AE];omega))
  all_goals(try(change AE .i64 (EL Q e+Y);simp at h;have:=TO h.1;have n:=f5x c Dv d Dv;simp only[AE];omega))
  all_goals(rename_i b;simp at b)
  all_goals(change (!decide (EY (EK Q e+X) (EL Q e+Y) (EN Q e)=0))=_ at h;simp at h)
  all_goals(try(have a:GJ X Y Q e=3:=by simp[GJ,b,h]);simp[a];done)
  all_goals(have a:GJ X Y Q e=0:=by simp[GJ,b,h])
  all_goals(simp only[a,Ke])
  .rfl
  .rfl
  .rfl
def Ll(W H X Y Q:Int):Int:=if AV W H=0 then(if EY X Y Q=0/\0<=X/\X<W/\0<=Y/\Y<H then 0 else 7)else 1
def QY(W H X Y Q:Int):Int:=if Ll W H X Y Q=0 then 4*(Y*W+X)+Q else 0
def kId:AM
 | [.agg [.int .i64 W,.int .i64 H],.agg [.int .i64 X,.int .i64 Y,.int .u8 Q]]=>some (0<=Q,.tup [.int .i64 (QY W H X Y Q),.int .i64 (Ll W H X Y Q)])
 |_=>none
def FId:Fam:=⟨Int×Int×Int×Int×Int,λ(W,H,X,Y,Q)=>[.agg [.int .i64 W,.int .i64 H],.agg [.int .i64 X,.int .i64 Y,.int .u8 Q]],λ(_,_,_,_,Q)=>0<=Q,
 λ(W,H,X,Y,Q)=>.tup [.int .i64 (QY W H X Y Q),.int .i64 (Ll W H X Y Q)]⟩
theorem f8g{W H X Y:Int}(h:AV W H=0)(_:0<=X)(h2:X<W)(a:0<=Y)(h4:Y<H):0<=Y*W/\Y*W+X<W*H/\W*H<=256:=by
 obtain⟨a1,a2,a3,a4,a5,a6,a7⟩:=Qa h;have b:Y*W<=(H-1)*W:=Int.mul_le_mul_of_nonneg_right Dv Dv;have c:(H-1)*W=W*H-W:=by rw[Int.sub_mul,Int.one_mul,Int.mul_comm]
 have d:0<=Y*W:=Int.mul_nonneg a Dv;omega
theorem pId:PS 149 kId:=by
 refine con [(96,QF),(123,Qu)] (by simpa using⟨Tl,Ux⟩) FId (λ_ _=>none) kId ?_ ?_ Tryz.func149 Dw Dw Dw ?_
 .intro args pre s h f;unfold kId at h;split at h
  .rename_i W H X Y Q;cases h;exact⟨(W,H,X,Y,Q),by simp[FId,BM,SV.le2,SV.le1,BH,SV.le0],f,rfl⟩
  .cases h
 .exact Bz
 .rintro⟨W,H,X,Y,Q⟩ e;replace e:0<=Q:=e;refine X0 _ ?_;(repeat' first|constructor|intro h)<;>refine Lm ?_
  all_goals(try(have a:Ll W H X Y Q=1:=by(simp at h;simp[Ll,h]));rw[QY,a];rfl)
  .simp at h;rw[Ll,J3 h];exact(b4i W H).resolve_left h
  all_goals(try((have a:Ll W H X Y Q=7:=by(rename_i d;simp at d;simp at h;rw[Ll,Iz d,J3];omega));first|exact a.symm|(rw[QY,a];rfl)))
  all_goals(rename_i d;simp at d;simp at h)
  all_goals(have b:=f8g (X:=X) (Y:=Y) d Dv Dv Dv Dv;have c:=TO h.1.1.1.1)
  all_goals(try(simp only[AE];omega))
  all_goals(have a:Ll W H X Y Q=0:=by rw[Ll,Iz d,Iz];omega)
  .rw[QY,a];rfl
  .exact a.symm
def AX(W H i e:Int):Int:=if KW W H i=0 then(if GJ (BZ W H i) (Bl W H i) (CB W H i) e=0 then Ll W H (JM (BZ W H i) (Bl W H i) (CB W H i) e) (JO (BZ W H i) (Bl W H i) (CB W H i) e) (IK (BZ W H i) (Bl W H i) (CB W H i) e)else 1)else KW W H i
def AG(W H i e:Int):Int:=if KW W H i=0 then(if GJ (BZ W H i) (Bl W H i) (CB W H i) e=0 then QY W H (JM (BZ W H i) (Bl W H i) (CB W H i) e) (JO (BZ W H i) (Bl W H i) (CB W H i) e) (IK (BZ W H i) (Bl W H i) (CB W H i) e)else 0)else 0
theorem TY(W H i:Int):0<=CB W H i/\CB W H i<=3:=by unfold CB;split<;>omega
theorem d2r{X Y Q e:Int}(b:0<=Q)(c:0<=e):0<=IK X Y Q e/\IK X Y Q e<=3:=by
 unfold IK;split
 .rename_i h;unfold GJ at h;split at h
  .rename_i a;have:=TO a.1;have:=f5x b Dv c a.2;omega
  .cases h
 .omega
def UG:AM
 | [.agg [.int .i64 W,.int .i64 H],.int .i64 i,.int .u8 e]=>some (0<=e,.tup [.int .i64 (AG W H i e),.int .i64 (AX W H i e)])
 |_=>none
def b7g:Fam:=⟨Int×Int×Int×Int,λ(W,H,i,e)=>[.agg [.int .i64 W,.int .i64 H],.int .i64 i,.int .u8 e],λ(_,_,_,e)=>0<=e,
 λ(W,H,i,e)=>.tup [.int .i64 (AG W H i e),.int .i64 (AX W H i e)]⟩
theorem b1j:PS 110 UG:=by
 refine con [(118,Vn),(129,Vx),(149,kId)] (by simpa using⟨b2b,b05,pId⟩) b7g (λ_ _=>none) UG ?_ ?_ Tryz.func110 Dw Dw Dw ?_
 .intro args pre s h b;unfold UG at h;split at h
  .rename_i W H i e;cases h;exact⟨(W,H,i,e),by simp[b7g,BM,SV.le2,SV.le1,BH,SV.le0],b,rfl⟩
  .cases h
 .exact C1
 .rintro⟨W,H,i,e⟩ a;replace a:0<=e:=a;refine X0 _ ?_;(repeat' first|constructor|intro h)<;>refine Lm ?_
  all_goals(try exact a)
  all_goals(try exact(TY W H i).1)
  all_goals(try exact⟨(TY W H i).1,a⟩)
  all_goals(try exact(d2r (TY W H i).1 a).1)
  all_goals(simp at h;(try rename_i c;simp at c);simp[AX,AG, *])
def c0x:AM
 | [.agg [.int .i64 X,.int .i64 Y,.int .u8 _]]=>some (-5000<=X/\X<=5000/\ -5000<=Y/\Y<=5000,.agg [.int .i64 (2*X+1),.int .i64 (2*Y+1)])
 |_=>none
def d5c:Fam:=⟨Int×Int×Int,λ(X,Y,Q)=>[.agg [.int .i64 X,.int .i64 Y,.int .u8 Q]],λ(X,Y,_)=> -5000<=X/\X<=5000/\ -5000<=Y/\Y<=5000,λ(X,Y,_)=>.agg [.int .i64 (2*X+1),.int .i64 (2*Y+1)]⟩
theorem g19:PS 196 c0x:=by
 refine con [] Dx d5c (λ_ _=>none) c0x ?_ ?_ Tryz.func196 Dw Dw Dw ?_
 .intro args pre s h a;unfold c0x at h;split at h
  .rename_i X Y Q;cases h;exact⟨(X,Y,Q),by simp[d5c,BM,SV.le2,SV.le1,BH,SV.le0],a,rfl⟩
  .cases h
 .exact C0
 .rintro⟨X,Y,Q⟩ a;replace a: -5000<=X/\X<=5000/\ -5000<=Y/\Y<=5000:=a;exact X0e
def o1(Q:Int):Int:=tb [0,2,2,0] Q.toNat
def o2(Q:Int):Int:=tb [2,2,0,0] Q.toNat
def CE(a b:Int):Int:=if a<b then -1 else if a>b then 1 else 0
def kNaN:AM
 | [.int .i64 _]=>some (True,.bool false)
 |_=>none
def FNaN:Fam:=⟨Int,λa=>[.int .i64 a],λ_=>True,λ_=>.bool false⟩
theorem pNaN:PS 153 kNaN:=by
 refine con [] Dx FNaN (λ_ _=>none) kNaN ?_ ?_ Tryz.func153 Dw Dw Dw ?_
 .intro args pre s h b;unfold kNaN at h;split at h
  .rename_i a;cases h;exact⟨a,by simp[FNaN,BM,SV.le2,SV.le1,SV.le0],b,rfl⟩
  .cases h
 .exact C0
 .intro(a:Int) b;replace b:True:=b;refine X0 _ ?_;(repeat' first|constructor|intro h)<;>refine Lm ?_
  all_goals simp
def f25:AM
 | [.int .u8 _]=>some (True,.bool false)
 |_=>none
def FNaN8:Fam:=⟨Int,λa=>[.int .u8 a],λ_=>True,λ_=>.bool false⟩
theorem pNaN8:PS 191 f25:=by
 refine con [] Dx FNaN8 (λ_ _=>none) f25 ?_ ?_ Tryz.func191 Dw Dw Dw ?_
 .intro args pre s h b;unfold f25 at h;split at h
  .rename_i a;cases h;exact⟨a,by simp[FNaN8,BM,SV.le2,SV.le1,SV.le0],b,rfl⟩
  .cases h
 .exact C0
 .intro(a:Int) b;replace b:True:=b;refine X0 _ ?_;(repeat' first|constructor|intro h)<;>refine Lm ?_
  all_goals simp
def Tp:AM
 | [.int .i64 a,.int .i64 b]=>some (True,.int .i64 (CE a b))
 |_=>none
def FCmp:Fam:=⟨Int×Int,λ(a,b)=>[.int .i64 a,.int .i64 b],λ(_,_)=>True,λ(a,b)=>.int .i64 (CE a b)⟩
theorem pCmp:PS 115 Tp:=by
 refine con [(153,kNaN)] (by simpa using pNaN) FCmp (λ_ _=>none) Tp ?_ ?_ Tryz.func115 Dw Dw Dw ?_
 .intro args pre s h c;unfold Tp at h;split at h
  .rename_i a b;cases h;exact⟨(a,b),by simp[FCmp,BM,SV.le2,SV.le1,SV.le0],c,rfl⟩
  .cases h
 .exact Bz
 .rintro⟨a,b⟩ c;replace c:True:=c;refine X0 _ ?_;(repeat' first|constructor|intro h)<;>refine Lm ?_
  all_goals(first|(simp at h;done)|(rename_i d;simp at d;done)|(simp at h;(try rename_i d;simp at d);simp[CE, *]<;>omega))
def f06:AM
 | [.int .u8 a,.int .u8 b]=>some (True,.int .i64 (CE a b))
 |_=>none
def FCmp8:Fam:=⟨Int×Int,λ(a,b)=>[.int .u8 a,.int .u8 b],λ(_,_)=>True,λ(a,b)=>.int .i64 (CE a b)⟩
theorem pCmp8:PS 143 f06:=by
 refine con [(191,f25)] (by simpa using pNaN8) FCmp8 (λ_ _=>none) f06 ?_ ?_ Tryz.func143 Dw Dw Dw ?_
 .intro args pre s h c;unfold f06 at h;split at h
  .rename_i a b;cases h;exact⟨(a,b),by simp[FCmp8,BM,SV.le2,SV.le1,SV.le0],c,rfl⟩
  .cases h
 .exact Bz
 .rintro⟨a,b⟩ c;replace c:True:=c;refine X0 _ ?_;(repeat' first|constructor|intro h)<;>refine Lm ?_
  all_goals(first|(simp at h;done)|(rename_i d;simp at d;done)|(simp at h;(try rename_i d;simp at d);simp[CE, *]<;>omega))
def IJ(Q:Int):Int:=tb [2,1,2,1] Q.toNat
def JY(Q:Int):Int:=tb [0,1,1,0] Q.toNat
theorem lq_le{Q:Int}(a:0<=Q)(h1:Q<=3):(IJ Q=1\/IJ Q=2)/\0<=JY Q/\JY Q<=1:=by have:∀q:Nat,q<4->(IJ q=1\/IJ q=2)/\0<=JY q/\JY q<=1:=Dy;have:=this Q.toNat Dv;rwa[M9 a]at this
def DB(Q e:Int):Int:=if e=1 then 3 else if e=2 then 4 else IJ Q
def DF(X Y Q e:Int):Int:=if e=1 then X+Y+1 else if e=2 then Y-X else if IJ Q=2 then Y+JY Q else X+JY Q
def RN(X Y Q e:Int):Int:=if EY X Y Q=0/\e<=2 then(if FY (DB Q e) (DF X Y Q e)=0 then 0 else 3)else 1
def b2i:AM
 | [.agg [.int .i64 X,.int .i64 Y,.int .u8 Q],.int .u8 e]=>some (0<=Q/\0<=e,.tup [.agg [.int .u8 (keep (RN X Y Q e) (DB Q e)),.int .i64 (keep (RN X Y Q e) (DF X Y Q e))],.int .i64 (RN X Y Q e)])
 |_=>none
def c2w:Fam:=⟨Int×Int×Int×Int,λ(X,Y,Q,e)=>[.agg [.int .i64 X,.int .i64 Y,.int .u8 Q],.int .u8 e],λ(_,_,Q,e)=>0<=Q/\0<=e,λ(X,Y,Q,e)=>.tup [.agg [.int .u8 (keep (RN X Y Q e) (DB Q e)),.int .i64 (keep (RN X Y Q e) (DF X Y Q e))],.int .i64 (RN X Y Q e)]⟩
theorem d2a:PS 195 b2i:=by
 refine con [(123,Qu),(86,XR)] (by simpa using⟨Ux,c7b⟩) c2w (λ_ _=>none) b2i ?_ ?_ Tryz.func195 Dw Dw Dw ?_
 .intro args pre s h a;unfold b2i at h;split at h
  .rename_i X Y Q e;cases h;exact⟨(X,Y,Q,e),by simp[c2w,BM,SV.le2,SV.le1,BH,SV.le0],a,rfl⟩
  .cases h
 .exact Bz
 .rintro⟨X,Y,Q,e⟩ a;replace a:0<=Q/\0<=e:=a;refine X0 _ ?_;(repeat' first|constructor|intro h)<;>refine Lm ?_
  all_goals(have c1:=@TO X Y Q;have o:=@lq_le Q a.1)
  all_goals(try simp only[AE])
  all_goals(simp only[IJ,JY]at o)
  all_goals grind[RN,DB,DF,keep,IJ,JY]
def Rh(a b c d e f:Int):Int:=if CE a b=0 then(if CE c d=0 then CE e f else CE c d)else CE a b
def f3c(a b c d e f:Int)(i:Nat):List SV:=[.int .i64 (tb [a,c,e] i),.int .i64 (tb [b,d,f] i)]
def kOrd:AM
 | [.sl 2 3 g _]=>match g 0,g 1,g 2 with
   | [.int .i64 a,.int .i64 b],[.int .i64 c,.int .i64 d],[.int .i64 e,.int .i64 f]=>some (True,.int .i64 (Rh a b c d e f))
   |_,_,_=>none
 |_=>none
def FOrd:Fam:=⟨Int×Int×Int×Int×Int×Int,λ(a,b,c,d,e,f)=>[.sl 2 3 (f3c a b c d e f) none],λ_=>True,λ(a,b,c,d,e,f)=>.int .i64 (Rh a b c d e f)⟩
def IOrd(a b c d e f:Int):Nat->Option Inv
 |2=>some {β:=Nat,ok:=λi=>i<=3/\∀j,j<i->CE (tb [a,c,e] j) (tb [b,d,f] j)=0,st:=λi=>⟨[⟨8,none,.int .i64 i⟩,⟨7,none,.int .i64 3⟩,⟨6,none,.sl 2 3 (f3c a b c d e f) none⟩,⟨2,none,.int .i64 0⟩],[]⟩,μ:=λi=>3-i}
 |_=>none
theorem pOrd:PS 135 kOrd:=by
 refine con [(115,Tp)] (by simpa using pCmp) FOrd (λ(a,b,c,d,e,f)=>IOrd a b c d e f) kOrd ?_ ?_ Tryz.func135 Dw Dw Dw ?_
 .intro args pre s h hp;unfold kOrd at h;split at h
  .split at h
   .rename_i g cp _ _ _ a b c d e f o r w;cases h;refine⟨(a,b,c,d,e,f),?_,J5,rfl⟩;simp only[FOrd,BM,SV.le2,SV.le1,SV.le0,GL,and_true,Ni,Ke];refine RZ ?_;intro i l;match i,l with
    |0,_=>exact o
    |1,_=>exact r
    |2,_=>exact w
   .cases h
  .cases h
 .exact C0
 .rintro⟨a,b,c,d,e,f⟩-;refine X0 _ ?_;(repeat' first|constructor|intro h)<;>refine Lm ?_
  refine⟨(0:Nat),⟨Dv,λj x=>Dv⟩,?_,?_⟩
  .refine X0 _ ?_;(repeat' first|constructor|intro h)<;>refine Lm ?_
   all_goals first|exact A6
  .intro i l;obtain⟨dv,k⟩:=l;refine X0 _ ?_;(repeat' first|constructor|intro h)<;>refine Lm ?_
   all_goals(first
    |decide
    |exact⟨Dv,by grind⟩
    |(simp only[AE];grind)
    |(have n:i<3:=by grind
      have q:CE (tb [a,c,e] i) (tb [b,d,f] i)=0:=E2;refine⟨i+1,⟨Dv,λj x=> ?_⟩,Dv,?_⟩
      .by_cases e:j=i
       .subst e;exact q
       .exact k j Dv)
    |(have n:i<3:=by grind
      have q:¬CE (tb [a,c,e] i) (tb [b,d,f] i)=0:=E2;have:i=0\/i=1\/i=2:=Dv;rcases this with rfl|rfl|rfl
      .simp[tb]at q;simp[Rh,q,tb]
      .have:=k 0 Dv;simp[tb]at q this;simp[Rh,q,tb,this]
      .have:=k 0 Dv;have t:=k 1 Dv;simp[tb]at q this t;simp[Rh,tb,this,t])
    |(have n:i=3:=by grind
      subst n;have u:=k 0 Dv;have t:=k 1 Dv;have v:=k 2 Dv;simp[tb]at u t v;simp[Rh,u,t,v])
    |skip)
   all_goals exact X0f
def FZ(X Y Q U V R:Int):Int:=Rh Y V X U Q R
def SB:AM
 | [.agg [.int .i64 X,.int .i64 Y,.int .u8 Q],.agg [.int .i64 U,.int .i64 V,.int .u8 R]]=>some (AE .u8 Q/\AE .u8 R,.int .i64 (FZ X Y Q U V R))
 |_=>none
def b3v:Fam:=⟨Int×Int×Int×Int×Int×Int,λ(X,Y,Q,U,V,R)=>[.agg [.int .i64 X,.int .i64 Y,.int .u8 Q],.agg [.int .i64 U,.int .i64 V,.int .u8 R]],λ(_,_,Q,_,_,R)=>AE .u8 Q/\AE .u8 R,λ(X,Y,Q,U,V,R)=>.int .i64 (FZ X Y Q U V R)⟩
theorem b11:PS 100 SB:=by
 refine con [(135,kOrd)] (by simpa using pOrd) b3v (λ_ _=>none) SB ?_ ?_ Tryz.func100 Dw Dw Dw ?_
 .intro args pre s h a;unfold SB at h;split at h
  .rename_i X Y Q U V R;cases h;exact⟨(X,Y,Q,U,V,R),by simp[b3v,BM,SV.le2,SV.le1,BH,SV.le0],a,rfl⟩
  .cases h
 .exact Bz
 .rintro⟨X,Y,Q,U,V,R⟩ a;replace a:AE .u8 Q/\AE .u8 R:=a;refine X0 _ ?_;(repeat' first|constructor|intro h)<;>refine Lm ?_
  all_goals(first|rfl|(simp only[AE]at*;omega))
def sX(Q:Int):Int:=tb [0,1,0,-1] Q.toNat
def sY(Q:Int):Int:=tb [-1,0,1,0] Q.toNat
def dX(t Q:Int):Int:=OA t 0 0 (sX Q) (sY Q)
def dY(t Q:Int):Int:=Nw t 0 0 (sX Q) (sY Q)
def NC(t Q:Int)(i:Nat):Bool:=and (decide (tb [0,1,0,-1] i=dX t Q)) (and (decide (tb [-1,0,1,0] i=dY t Q)) true)
def Rg(t Q:Int):Nat->Int
 |0=>0
 |i+1=>bif NC t Q i then i else Rg t Q i
def KV(t Q:Int):Int:=Rg t Q 4
def Qm(p:Int):Int:=(p-p%2).tdiv 2
def LN(t x y X Y:Int):Int:=Qm (OA t x y (2*X+1) (2*Y+1))
def MB(t x y X Y:Int):Int:=Qm (Nw t x y (2*X+1) (2*Y+1))
theorem po_le{t x y a b:Int}(c:0<=t)(h:DV t x y=0)(a1: -9000<=a)(a2:a<=9000)(b1: -9000<=b)(b2:b<=9000): -60000<=OA t x y a b/\OA t x y a b<=60000/\ -60000<=Nw t x y a b/\Nw t x y a b<=60000:=by have m:=TW h;have r:=c4y (t:=t) (x:=a) (y:=b) (B:=9000) c m.1 Dv Dv Dv Dv;unfold OA Nw keep;split<;>omega
theorem d60{p:Int}(h1: -60000<=p)(h2:p<=60000): -60000<=Qm p/\Qm p<=60000:=by unfold Qm;have:=Int.tdiv_eq_ediv (a:=p-p%2) (b:=2);rw[this];split<;>omega
def c4u:SV:=.agg (Wi 0++Wi 1++Wi 2++Wi 3)
def IMoved:Int×Int×Int×Int×Int×Int->Nat->Option Inv
 |(t,x,y,X,Y,Q),7=>some {β:=Nat,ok:=λi=>i<=4,st:=λi=>⟨[⟨47,none,.int .i64 i⟩,⟨46,none,c4u⟩,⟨7,none,.own 5 0⟩,⟨6,none,.own 4 0⟩,⟨4,none,.own 2 0⟩],[.cells 31 [.int .u8 t,.int .i64 0,.int .i64 0],.cells 39 [.int .i64 X,.int .i64 Y,.int .u8 Q],.cells 39 [.int .i64 0,.int .i64 0,.int .u8 0],.cells 258 [.int .i64 (OA t x y (2*X+1) (2*Y+1)),.int .i64 (Nw t x y (2*X+1) (2*Y+1))],.cells 258 [.int .i64 (dX t Q),.int .i64 (dY t Q)],.cells 39 [.int .i64 (LN t x y X Y),.int .i64 (MB t x y X Y),.int .u8 (Rg t Q i)]]⟩,μ:=λi=>4-i}
 |_,_=>none
def c84:AM
 | [.agg [.int .u8 t,.int .i64 x,.int .i64 y],.agg [.int .i64 X,.int .i64 Y,.int .u8 Q]]=>some (DV t x y=0/\EY X Y Q=0/\0<=t/\0<=Q,.agg [.int .i64 (LN t x y X Y),.int .i64 (MB t x y X Y),.int .u8 (KV t Q)])
 |_=>none
def f59:Fam:=⟨Int×Int×Int×Int×Int×Int,λ(t,x,y,X,Y,Q)=>[.agg [.int .u8 t,.int .i64 x,.int .i64 y],.agg [.int .i64 X,.int .i64 Y,.int .u8 Q]],λ(t,x,y,X,Y,Q)=>DV t x y=0/\EY X Y Q=0/\0<=t/\0<=Q,λ(t,x,y,X,Y,Q)=>.agg [.int .i64 (LN t x y X Y),.int .i64 (MB t x y X Y),.int .u8 (KV t Q)]⟩
theorem pMoved:PS 165 c84:=by
 refine con [(196,c0x),(197,b4s)] (by simpa using⟨g19,f07⟩) f59 IMoved c84 ?_ ?_ Tryz.func165 Dw Dw Dw ?_
 .intro args pre s h d;unfold c84 at h;split at h
  .rename_i t x y X Y Q;cases h;exact⟨(t,x,y,X,Y,Q),by simp[f59,BM,SV.le2,SV.le1,BH,SV.le0],d,rfl⟩
  .cases h
 .exact Bz
 .rintro⟨t,x,y,X,Y,Q⟩ d;replace d:DV t x y=0/\EY X Y Q=0/\0<=t/\0<=Q:=d;refine X0 _ ?_;(repeat' first|constructor|intro h)<;>refine Lm ?_
  all_goals(have m:=TW d.1;have c:=TO d.2.1;have r:=po_le d.2.2.1 d.1 (a:=2*X+1) (b:=2*Y+1) Dv Dv Dv Dv)
  all_goals(first
   |exact Ap
   |(have q:=d60 r.1 r.2.1;simp only[Qm]at q;simp only[AE];omega)
   |(have q:=d60 r.2.2.1 r.2.2.2;simp only[Qm]at q;simp only[AE];omega)
   |refine⟨(0:Nat),Dy,?_,?_⟩)
  .exact X0c
  .intro i f;replace f:i<=4:=f;have:i=0\/i=1\/i=2\/i=3\/i=4:=Dv;rcases this with rfl|rfl|rfl|rfl|rfl;all_goals refine X0 _ ?_;(repeat' first|constructor|intro h)<;>refine Lm ?_
   all_goals(first
    |decide
    |rfl
    |exact A7
    |(refine⟨(1:Nat),Dy,Dy,?_⟩;(first|(have h:NC t Q 0=true:=h)|(have h:NC t Q 0=false:=h)))
    |(refine⟨(2:Nat),Dy,Dy,?_⟩;(first|(have h:NC t Q 1=true:=h)|(have h:NC t Q 1=false:=h)))
    |(refine⟨(3:Nat),Dy,Dy,?_⟩;(first|(have h:NC t Q 2=true:=h)|(have h:NC t Q 2=false:=h)))
    |(refine⟨(4:Nat),Dy,Dy,?_⟩;(first|(have h:NC t Q 3=true:=h)|(have h:NC t Q 3=false:=h))))
   all_goals refine X0 _ ?_;(repeat' first|constructor|intro h)<;>refine Lm ?_
   all_goals first|exact Ay|(simp only[Rg,h,Mz,cond_false];done)|(simp only[Rg];rw[h];rfl)|skip
def EI(W H i e:Int):Int:=if AX W H i e=0 then min i (AG W H i e)else 0
def FC(W H i e:Int):Int:=if AX W H i e=0 then e else 0
def TL:AM
 | [.agg [.int .i64 W,.int .i64 H],.int .i64 i,.int .u8 e]=>some (0<=e,.tup [.agg [.int .i64 (EI W H i e),.int .u8 (FC W H i e)],.int .i64 (AX W H i e)])
 |_=>none
def FName:Fam:=⟨Int×Int×Int×Int,λ(W,H,i,e)=>[.agg [.int .i64 W,.int .i64 H],.int .i64 i,.int .u8 e],λ(_,_,_,e)=>0<=e,λ(W,H,i,e)=>.tup [.agg [.int .i64 (EI W H i e),.int .u8 (FC W H i e)],.int .i64 (AX W H i e)]⟩
theorem d99:PS 157 TL:=by
 refine con [(110,UG)] (by simpa using b1j) FName (λ_ _=>none) TL ?_ ?_ Tryz.func157 Dw Dw Dw ?_
 .intro args pre s h a;unfold TL at h;split at h
  .rename_i W H i e;cases h;exact⟨(W,H,i,e),by simp[FName,BM,SV.le2,SV.le1,BH,SV.le0],a,rfl⟩
  .cases h
 .exact C1
 .rintro⟨W,H,i,e⟩ a;replace a:0<=e:=a;refine X0 _ ?_;(repeat' first|constructor|intro h)<;>refine Lm ?_
  all_goals(try exact a)
  all_goals(simp at h;simp[EI,FC,h])
def d68:AM
 | [.agg [.int .i64 a,.int .u8 b,.int .u8 _]]=>some (True,.agg [.int .i64 a,.int .u8 b])
 |_=>none
def FUnit:Fam:=⟨Int×Int×Int,λ(a,b,c)=>[.agg [.int .i64 a,.int .u8 b,.int .u8 c]],λ(_,_,_)=>True,λ(a,b,_)=>.agg [.int .i64 a,.int .u8 b]⟩
theorem pUnit:PS 158 d68:=by
 refine con [] Dx FUnit (λ_ _=>none) d68 ?_ ?_ Tryz.func158 Dw Dw Dw ?_
 .intro args pre s h d;unfold d68 at h;split at h
  .rename_i a b c;cases h;exact⟨(a,b,c),by simp[FUnit,BM,SV.le2,SV.le1,BH,SV.le0],d,rfl⟩
  .cases h
 .exact C0
 .rintro⟨a,b,c⟩ d;replace d:True:=d;refine X0 _ ?_;(repeat' first|constructor|intro h)<;>refine Lm ?_
def JH(a b c d:Int):Int:=if a=c then b-d else a-c
def XE:AM
 | [.agg [.int .i64 a,.int .u8 b],.agg [.int .i64 c,.int .u8 d]]=>some (AE .i64 (a-c)/\AE .u8 b/\AE .u8 d,.int .i64 (JH a b c d))
 |_=>none
def f4w:Fam:=⟨Int×Int×Int×Int,λ(a,b,c,d)=>[.agg [.int .i64 a,.int .u8 b],.agg [.int .i64 c,.int .u8 d]],λ(a,b,c,d)=>AE .i64 (a-c)/\AE .u8 b/\AE .u8 d,λ(a,b,c,d)=>.int .i64 (JH a b c d)⟩
theorem f3h:PS 159 XE:=by
 refine con [] Dx f4w (λ_ _=>none) XE ?_ ?_ Tryz.func159 Dw Dw Dw ?_
 .intro args pre s h e;unfold XE at h;split at h
  .rename_i a b c d;cases h;exact⟨(a,b,c,d),by simp[f4w,BM,SV.le2,SV.le1,BH,SV.le0],e,rfl⟩
  .cases h
 .exact Bz
 .rintro⟨a,b,c,d⟩ e;replace e:AE .i64 (a-c)/\AE .u8 b/\AE .u8 d:=e;refine X0 _ ?_;(repeat' first|constructor|intro h)<;>refine Lm ?_
  all_goals(simp at h)
  all_goals(try(simp[JH,h];done))
  all_goals(simp only[AE]at e⊢;omega)
def Qo(k:Int):Bool:=decide (1<=k)&&decide (k<=3)
def b8x:AM
 | [.int .u8 k]=>some (True,.bool (Qo k))
 |_=>none
def d5n:Fam:=⟨Int,λk=>[.int .u8 k],λ_=>True,λk=>.bool (Qo k)⟩
theorem f9x:PS 156 b8x:=by
 refine con [] Dx d5n (λ_ _=>none) b8x ?_ ?_ Tryz.func156 Dw Dw Dw ?_
 .intro args pre s h a;unfold b8x at h;split at h
  .rename_i k;cases h;exact⟨k,by simp[d5n,BM,SV.le2,SV.le1,SV.le0],a,rfl⟩
  .cases h
 .exact C0
 .intro(k:Int) a;replace a:True:=a;refine X0 _ ?_;(repeat' first|constructor|intro h)<;>refine Lm ?_
  all_goals rfl
def b9u:AM
 | [.agg [.int .i64 _,.int .u8 _,.int .u8 k]]=>some (True,.bool (!Qo k))
 |_=>none
def d2e:Fam:=⟨Int×Int×Int,λ(a,b,k)=>[.agg [.int .i64 a,.int .u8 b,.int .u8 k]],λ(_,_,_)=>True,λ(_,_,k)=>.bool (!Qo k)⟩
theorem f8m:PS 155 b9u:=by
 refine con [(156,b8x)] (by simpa using f9x) d2e (λ_ _=>none) b9u ?_ ?_ Tryz.func155 Dw Dw Dw ?_
 .intro args pre s h c;unfold b9u at h;split at h
  .rename_i a b k;cases h;exact⟨(a,b,k),by simp[d2e,BM,SV.le2,SV.le1,BH,SV.le0],c,rfl⟩
  .cases h
 .exact C0
 .rintro⟨a,b,k⟩ c;replace c:True:=c;refine X0 _ ?_;(repeat' first|constructor|intro h)<;>refine Lm ?_
theorem d2d(t Q:Int):∀n:Nat,0<=Rg t Q n/\Rg t Q n<=n
 |0=>⟨Mt _,Mt _⟩
 |n+1=>by have:=d2d t Q n;simp only[Rg];cases NC t Q n<;>simp<;>omega
def HO(t x y X Y Q:Int):Int:=if DV t x y=0/\EY X Y Q=0 then(if EY (LN t x y X Y) (MB t x y X Y) (KV t Q)=0 then 0 else 3)else 1
def VR:AM
 | [.agg [.int .u8 t,.int .i64 x,.int .i64 y],.agg [.int .i64 X,.int .i64 Y,.int .u8 Q]]=>some (0<=t/\t<=255/\0<=Q,.tup [.agg [.int .i64 (keep (HO t x y X Y Q) (LN t x y X Y)),.int .i64 (keep (HO t x y X Y Q) (MB t x y X Y)),.int .u8 (keep (HO t x y X Y Q) (KV t Q))],.int .i64 (HO t x y X Y Q)])
 |_=>none
def c1b:Fam:=⟨Int×Int×Int×Int×Int×Int,λ(t,x,y,X,Y,Q)=>[.agg [.int .u8 t,.int .i64 x,.int .i64 y],.agg [.int .i64 X,.int .i64 Y,.int .u8 Q]],λ(t,_,_,_,_,Q)=>0<=t/\t<=255/\0<=Q,λ(t,x,y,X,Y,Q)=>.tup [.agg [.int .i64 (keep (HO t x y X Y Q) (LN t x y X Y)),.int .i64 (keep (HO t x y X Y Q) (MB t x y X Y)),.int .u8 (keep (HO t x y X Y Q) (KV t Q))],.int .i64 (HO t x y X Y Q)]⟩
theorem b5d:PS 119 VR:=by
 refine con [(17,Qh),(123,Qu),(165,c84)] (by simpa using⟨UJ,Ux,pMoved⟩) c1b (λ_ _=>none) VR ?_ ?_ Tryz.func119 Dw Dw Dw ?_
 .intro args pre s h a;unfold VR at h;split at h
  .rename_i t x y X Y Q;cases h;exact⟨(t,x,y,X,Y,Q),by simp[c1b,BM,SV.le2,SV.le1,BH,SV.le0],a,rfl⟩
  .cases h
 .exact Bz
 .rintro⟨t,x,y,X,Y,Q⟩ a;replace a:0<=t/\t<=255/\0<=Q:=a;refine X0 _ ?_;(repeat' first|constructor|intro h)<;>refine Lm ?_
  all_goals(first|grind|grind[HO,keep])
def EA(W H:Int):Int:=if AV W H=0 then 4*W*H else 0
def Vb:AM
 | [.agg [.int .i64 W,.int .i64 H]]=>some (True,.int .i64 (EA W H))
 |_=>none
def f55:Fam:=⟨Int×Int,λ(W,H)=>[.agg [.int .i64 W,.int .i64 H]],λ(_,_)=>True,λ(W,H)=>.int .i64 (EA W H)⟩
theorem d3b:PS 103 Vb:=by
 refine con [(96,QF)] (by simpa using Tl) f55 (λ_ _=>none) Vb ?_ ?_ Tryz.func103 Dw Dw Dw ?_
 .intro args pre s h a;unfold Vb at h;split at h
  .rename_i W H;cases h;exact⟨(W,H),by simp[f55,BM,SV.le2,SV.le1,BH,SV.le0],a,rfl⟩
  .cases h
 .exact C0
 .rintro⟨W,H⟩ a;replace a:True:=a;refine X0 _ ?_;(repeat' first|constructor|intro h)<;>refine Lm ?_
  all_goals(have z:=@Qa W H)
  all_goals(try simp only[AE])
  all_goals grind[EA]
def Pv(W H i e:Int):Int:=if AV W H=0 then(if AX W H i e=0/\EI W H i e=i/\FC W H i e=e then 0 else 7)else 1
def NR(W H i e v:Int):Int:=if Pv W H i e=0 then v else 0
theorem b3k{W H i e:Int}(h:AX W H i e=0):KW W H i=0:=by
 unfold AX at h;split at h
 .assumption
 .exact h
theorem b8f{W H i:Int}(h:KW W H i=0):AV W H=0/\0<=i/\i<4*(W*H):=by
 unfold KW at h;split at h
 .rename_i a;have z:=Qa a;split at h
  .rename_i b;simp[Se]at b;exact⟨a,b.1,Dv⟩
  .cases h
 .cases h
def c6b:AM
 | [.agg [.int .i64 W,.int .i64 H],.agg [.int .i64 i,.int .u8 e]]=>some (0<=e,.tup [.agg [.int .i64 (NR W H i e (i/4%W)),.int .i64 (NR W H i e (i/4/W)),.int .u8 (NR W H i e (i%4))],.int .i64 (Pv W H i e)])
 |_=>none
def f4d:Fam:=⟨Int×Int×Int×Int,λ(W,H,i,e)=>[.agg [.int .i64 W,.int .i64 H],.agg [.int .i64 i,.int .u8 e]],λ(_,_,_,e)=>0<=e,λ(W,H,i,e)=>.tup [.agg [.int .i64 (NR W H i e (i/4%W)),.int .i64 (NR W H i e (i/4/W)),.int .u8 (NR W H i e (i%4))],.int .i64 (Pv W H i e)]⟩
theorem pNamed:PS 194 c6b:=by
 refine con [(96,QF),(157,TL),(164,Yi)] (by simpa using⟨Tl,d99,pCell⟩) f4d (λ_ _=>none) c6b ?_ ?_ Tryz.func194 Dw Dw Dw ?_
 .intro args pre s h a;unfold c6b at h;split at h
  .rename_i W H i e;cases h;exact⟨(W,H,i,e),by simp[f4d,BM,SV.le2,SV.le1,BH,SV.le0],a,rfl⟩
  .cases h
 .exact Bz
 .rintro⟨W,H,i,e⟩ a;replace a:0<=e:=a;refine X0 _ ?_;(repeat' first|constructor|intro h)<;>refine Lm ?_
  all_goals(have z:=@Qa W H;have z2:=@b3k W H i e;have z3:=@b8f W H i;have z4:=b4i W H)
  all_goals(first|grind|grind[Pv,NR])
def MH(x:Cr):Bool:= !Qo x.k
def Si(p:Cr->Bool)(l:List Cr):Int:=match l.findIdx? p with
 |some i=>i
 |none=> -1
theorem f09{p:Cr->Bool}{l:List Cr}{i:Nat}(hi:i<l.length)(h:∀j,j<i->p (l.getD j d0)=false)(a:p (l.getD i d0)=true):Si p l=i:=by
 have:l.findIdx? p=some i:=by
  rw[Kd];refine⟨hi,?_,λj b=> ?_⟩
  .simpa[Ix,hi]using a
  .have:=h j b;have c:j<l.length:=Dv;simpa[Ix,c]using this
 simp[Si,this]
theorem d3v{p:Cr->Bool}{l:List Cr}(h:∀j,j<l.length->p (l.getD j d0)=false):Si p l= -1:=by
 have:l.findIdx? p=none:=by rw[L5];intro x hx;obtain⟨j,a,rfl⟩:=Jw.1 hx;have:=h j a;simpa[Ix,a]using this
 simp[Si,this]
theorem d90(p:Cr->Bool)(l:List Cr):decide (0<=Si p l)=l.any p:=by
 unfold Si;cases h:l.findIdx? p with
 |none=>
  have:=L5.1 h;have:l.any p=false:=by rw[Jg];intro x hx;simpa using this x hx
  rw[this];rfl
 |some i=>
  have:=Kd.1 h;obtain⟨a,b,_⟩:=this;have:l.any p=true:=Jj.2 ⟨_,K2 a,b⟩;rw[this];simp
def b1k:AM
 | [x,.clo g []]=>if g=155 then match PT x with
   |some (n,f)=>some (MN n f/\n<=100000,.int .i64 (Si MH (EF n f)))
   |none=>none
   else none
 |_=>none
def b8c:Fam:=⟨List Cr,λl=>[.sl 3 l.length (DZ l) none,.clo 155 []],λl=>l.length<=100000,λl=>.int .i64 (Si MH l)⟩
def d0d(l:List Cr):Nat->Option Inv
 |2=>some {β:=Nat,ok:=λi=>i<=l.length/\∀j,j<i->MH (l.getD j d0)=false,st:=λi=>⟨[⟨8,none,.int .i64 i⟩,⟨7,none,.int .i64 l.length⟩,⟨0,none,.sl 3 l.length (DZ l) none⟩,⟨1,none,.clo 155 []⟩],[]⟩,μ:=λi=>l.length-i}
 |_=>none
theorem d03:PS 193 b1k:=by
 refine con [(155,b9u)] (by simpa using f8m) b8c (λl=>d0d l) b1k ?_ ?_ Tryz.func193 Dw Dw Dw ?_
 .intro args pre s h a;unfold b1k at h;split at h
  .split at h
   .rename_i k;subst k;split at h
    .rename_i n f hx;cases h;exact⟨EF n f,⟨Hl (Sa hx a.1),⟨rfl,rfl⟩,J5⟩,by simp only[b8c,Sh];exact a.2,rfl⟩
    .cases h
   .cases h
  .cases h
 .exact Bz
 .intro(l:List Cr) a;replace a:l.length<=100000:=a;refine X0 _ ?_;(repeat' first|constructor|intro h)<;>refine Lm ?_
  refine⟨(0:Nat),⟨Dv,λj g=>Dv⟩,?_,?_⟩
  .exact X0c
  .rintro i ⟨dv,d⟩;refine X0 _ ?_;(repeat' first|constructor|intro h)<;>refine Lm ?_
   .simp at h;omega
   .rename_i b;simp at b;exact(f09 b d h).symm
   .simp only[AE];omega
   .rename_i b;simp at b;refine⟨i+1,⟨Dv,λj g=> ?_⟩,Dv,?_⟩
    .by_cases e:j=i
     .subst e;exact h
     .exact d j Dv
    .exact X0f
   .simp at h;exact(d3v (λj g=>d j Dv)).symm
def b2z:AM
 | [x,.clo g []]=>if g=155 then match PT x with
   |some (n,f)=>some (MN n f/\n<=100000,.bool ((EF n f).any MH))
   |none=>none
   else none
 |_=>none
def c32:Fam:=⟨List Cr,λl=>[.sl 3 l.length (DZ l) none,.clo 155 []],λl=>l.length<=100000,λl=>.bool (l.any MH)⟩
theorem d2q:PS 154 b2z:=by
 refine con [(193,b1k)] (by simpa using d03) c32 (λ_ _=>none) b2z ?_ ?_ Tryz.func154 Dw Dw Dw ?_
 .intro args pre s h a;unfold b2z at h;split at h
  .split at h
   .rename_i b;subst b;split at h
    .rename_i n f hx;cases h;exact⟨EF n f,⟨Hl (Sa hx a.1),⟨rfl,rfl⟩,J5⟩,by simp only[c32,Sh];exact a.2,rfl⟩
    .cases h
   .cases h
  .cases h
 .exact Bz
 .intro(l:List Cr) a;replace a:l.length<=100000:=a;refine X0 _ ?_;(repeat' first|constructor|intro h)<;>refine Lm ?_
  .exact⟨FF l,a⟩
  .rw[CU];exact d90 _ _
structure Pt where
 W:Int
 H:Int
 l:List Cr
 deriving DecidableEq
def Eo(p:Pt):SV:=.agg [.int .i64 p.W,.int .i64 p.H,.sl 3 p.l.length (DZ p.l) none]
def PP:SV->Option (Prop×Pt)
 |.agg [.int .i64 W,.int .i64 H,x]=>(PT x).map λq=>(MN q.1 q.2/\q.1<=100000,⟨W,H,EF q.1 q.2⟩)
 |_=>none
theorem QX{s:SV}{q:Prop}{p:Pt}(h:PP s=some (q,p))(a:q):s.le2 (Eo p)/\p.l.length<=100000:=by
 unfold PP at h;split at h
 .rename_i W H x;rw[J7]at h;obtain⟨⟨n,f⟩,hx,h⟩:=h;cases h;refine⟨?_,by simp only[Sh];exact a.2⟩;simp only[Eo,SV.le2,SV.le1,BH,and_true];exact⟨E1,E1,Sa hx a.1⟩
 .cases h
theorem f67{q:Cr->Bool}{l:List Cr}{i:Nat}(hi:i<l.length)(h:q (l.getD i d0)=true):l.any q=true:=by refine Jj.2 ⟨l[i],K2 hi,?_⟩;simpa[Ix,hi]using h
theorem d83{q:Cr->Bool}{l:List Cr}(h:∀j,j<l.length->q (l.getD j d0)=false):l.any q=false:=by rw[Jg];intro x hx;obtain⟨j,a,rfl⟩:=Jw.1 hx;have:=h j a;simpa[Ix,a]using this
theorem d0x{q:Cr->Bool}{l:List Cr}{i:Nat}(hi:i<l.length)(h:l.any q=false):q (l.getD i d0)=false:=by rw[Jg]at h;have:=h l[i] (K2 hi);simpa[Ix,hi]using this
theorem b4r{l:List Cr}{i:Nat}(hi:i<l.length):l.getD i d0∈l:=by simp[hi]
theorem b1g{W H i e:Int}(h:AV W H=0)(b:AX W H i e=0):0<=i/\i<1024:=by
 have a:KW W H i=0:=by
  unfold AX at b;split at b
  .assumption
  .exact b
 unfold KW at a;rw[Iz h]at a;split at a
 .rename_i c;obtain⟨h1,h2,h3,h4,h5,h6,h7⟩:=Qa h;simp[Se]at c;omega
 .cases a
def PN(p:Pt)(x:Cr):Bool:= !decide (AX p.W p.H x.c x.e=0)|| !(decide (EI p.W p.H x.c x.e=x.c)&&(decide (FC p.W p.H x.c x.e=x.e)&&true))
def ON(p:Pt)(i:Nat):Bool:=decide (0<=JH (p.l.getD i d0).c (p.l.getD i d0).e (p.l.getD (i+1) d0).c (p.l.getD (i+1) d0).e)
def BE(p:Pt):Int:=if AV p.W p.H=0 then(if p.l.any MH then 1 else if p.l.any (PN p)then 7 else if(List.range (p.l.length-1)).any (ON p)then 6 else 0)else 1
def b66:AM
 | [x]=>match PP x with
   |some (a,p)=>some (a/\∀c∈p.l,AE .u8 c.e,.int .i64 (BE p))
   |none=>none
 |_=>none
def f7x:Fam:=⟨Pt,λp=>[Eo p],λp=>p.l.length<=100000/\∀c∈p.l,AE .u8 c.e,λp=>.int .i64 (BE p)⟩
def f86(p:Pt):Nat->Option Inv
 |7=>some {β:=Nat,ok:=λi=>i<=p.l.length/\AV p.W p.H=0/\p.l.any MH=false/\∀j,j<i->PN p (p.l.getD j d0)=false,st:=λi=>⟨[⟨21,none,.int .i64 i⟩,⟨20,none,.int .i64 p.l.length⟩,⟨19,none,.sl 3 p.l.length (DZ p.l) none⟩,⟨1,none,.own 0 0⟩],[.cells 29 [.int .i64 p.W,.int .i64 p.H,.sl 3 p.l.length (DZ p.l) none]]⟩,μ:=λi=>p.l.length-i}
 |14=>some {β:=Nat,ok:=λi=>1<=i/\(i=1\/i<=p.l.length)/\AV p.W p.H=0/\p.l.any MH=false/\p.l.any (PN p)=false/\∀j,j+1<i->ON p j=false,st:=λi=>⟨[⟨8,none,.int .i64 i⟩,⟨1,none,.own 0 0⟩],[.cells 29 [.int .i64 p.W,.int .i64 p.H,.sl 3 p.l.length (DZ p.l) none]]⟩,μ:=λi=>p.l.length+1-i}
 |_=>none
theorem d3i:PS 116 b66:=by
 refine con [(96,QF),(154,b2z),(157,TL),(158,d68),(159,XE)] (by simpa using⟨Tl,d2q,d99,pUnit,f3h⟩) f7x (λp=>f86 p) b66 ?_ ?_ Tryz.func116 Dw Dw Dw ?_
 .intro args pre s h hp;unfold b66 at h;split at h
  .split at h
   .rename_i a p hx;cases h;exact Cy
   .cases h
  .cases h
 .exact C0
 .rintro(p:Pt) hp;replace hp:p.l.length<=100000/\∀c∈p.l,AE .u8 c.e:=hp;refine X0 _ ?_;(repeat' first|constructor|intro h)<;>refine Lm ?_
  .simp at h;rw[BE,J3 h];exact(b4i p.W p.H).resolve_left h
  .exact⟨FF _,hp.1⟩
  .rename_i n;simp at n;rw[CU]at h;rw[BE,Iz n,Iz h]
  .rename_i n;simp at n;rw[CU]at h;refine⟨(0:Nat),⟨Dv,n,h,λj hj=>Dv⟩,?_,?_⟩
   .exact X0c
   .rintro i ⟨dv,b,g,r⟩;refine X0 _ ?_;(repeat' first|constructor|intro h)<;>refine Lm ?_
    .simp at h;omega
    .simp at h;have:=hp.2 _ (b4r (i:=i) h);simp only[AE]at this;exact this.1
    .rename_i d;simp at d;have e:PN p (p.l.getD i d0)=true:=h;rw[BE,Iz b,J3 (by simp[g]),Iz (f67 d e)]
    .simp only[AE];omega
    .rename_i d;simp at d;refine⟨i+1,⟨Dv,b,g,λj hj=> ?_⟩,Dv,?_⟩
     .by_cases e:j=i
      .subst e;exact h
      .exact r j Dv
     .exact X0f
    .simp at h;have m:p.l.any (PN p)=false:=d83 (λj hj=>r j Dv);refine⟨(1:Nat),⟨Dv,.inl rfl,b,g,m,λj hj=>Dv⟩,?_,?_⟩
     .exact X0c
     .rintro k ⟨k1,k2,-,-,-,k3⟩;refine X0 _ ?_;(repeat' first|constructor|intro h)<;>refine Lm ?_
      all_goals(try(simp only[AE];omega))
      all_goals(try(simp at h;omega))
      .simp at h;have o:((k:Int)-1).toNat=k-1:=Dv;rw[o,Jk];have t:=d0x (i:=k-1) Dv m;have u:=d0x (i:=k) Dv m;simp only[PN,Kk,Bool.not_eq_false',Jb]at t u;have c1:=b1g b t.1;have c2:=b1g b u.1;refine⟨Ff,hp.2 _ (b4r Dv),hp.2 _ (b4r Dv)⟩
      all_goals(have o:((k:Int)-1).toNat=k-1:=Dv)
      all_goals(have v:k-1+1=k:=Dv)
      .rename_i d;simp at d;simp only[o,Jk]at h;have q:ON p (k-1)=true:=by simp only[ON,v];exact h
       have:(List.range (p.l.length-1)).any (ON p)=true:=Jj.2 ⟨k-1,Jn.2 Dv,q⟩;rw[BE,Iz b,J3 (by simp[g]),J3 (by simp[m]),Iz this]
      .rename_i d;simp at d;simp only[o,Jk]at h;have q:ON p (k-1)=false:=by simp only[ON,v];exact h
       refine⟨k+1,⟨Dv,Dv,b,g,m,λj hj=> ?_⟩,Dv,?_⟩
       .by_cases e:j=k-1
        .subst e;exact q
        .exact k3 j Dv
       .exact X0f
      .simp at h;have:(List.range (p.l.length-1)).any (ON p)=false:=by
        rw[Jg];intro j hj;have:=k3 j H6;simp[this]
       rw[BE,Iz b,J3 (by simp[g]),J3 (by simp[m]),J3 (by simp[this])]
def Ty(W H i e:Int):Int:=if Pv W H i e=0 then RN (NR W H i e (i/4%W)) (NR W H i e (i/4/W)) (NR W H i e (i%4)) e else Pv W H i e
def UF(W H i e:Int):Int:=if Pv W H i e=0 then keep (Ty W H i e) (DB (i%4) e)else 0
def Un(W H i e:Int):Int:=if Pv W H i e=0 then keep (Ty W H i e) (DF (i/4%W) (i/4/W) (i%4) e)else 0
def b1u:AM
 | [.agg [.int .i64 W,.int .i64 H],.agg [.int .i64 i,.int .u8 e]]=>some (0<=e,.tup [.agg [.int .u8 (UF W H i e),.int .i64 (Un W H i e)],.int .i64 (Ty W H i e)])
 |_=>none
def b7x:Fam:=⟨Int×Int×Int×Int,λ(W,H,i,e)=>[.agg [.int .i64 W,.int .i64 H],.agg [.int .i64 i,.int .u8 e]],λ(_,_,_,e)=>0<=e,λ(W,H,i,e)=>.tup [.agg [.int .u8 (UF W H i e),.int .i64 (Un W H i e)],.int .i64 (Ty W H i e)]⟩
theorem d0u:PS 162 b1u:=by
 refine con [(194,c6b),(195,b2i)] (by simpa using⟨pNamed,d2a⟩) b7x (λ_ _=>none) b1u ?_ ?_ Tryz.func162 Dw Dw Dw ?_
 .intro args pre s h a;unfold b1u at h;split at h
  .rename_i W H i e;cases h;exact⟨(W,H,i,e),by simp[b7x,BM,SV.le2,SV.le1,BH,SV.le0],a,rfl⟩
  .cases h
 .exact Bz
 .rintro⟨W,H,i,e⟩ a;replace a:0<=e:=a;refine X0 _ ?_;(repeat' first|constructor|intro h)<;>refine Lm ?_
  all_goals(have z:0<=NR W H i e (i%4):=by(unfold NR;split<;>omega))
  all_goals(first|grind|grind[Ty,UF,Un,NR,keep])
def c8v:AM
 | [.agg [.int .i64 a,.int .u8 b,.int .u8 _],.agg [.int .i64 c,.int .u8 d]]=>some (AE .i64 (a-c)/\AE .u8 b/\AE .u8 d,.int .i64 (JH a b c d))
 |_=>none
def f39:Fam:=⟨Int×Int×Int×Int×Int,λ(a,b,k,c,d)=>[.agg [.int .i64 a,.int .u8 b,.int .u8 k],.agg [.int .i64 c,.int .u8 d]],λ(a,b,_,c,d)=>AE .i64 (a-c)/\AE .u8 b/\AE .u8 d,λ(a,b,_,c,d)=>.int .i64 (JH a b c d)⟩
theorem pFind1:PS 237 c8v:=by
 refine con [(158,d68),(159,XE)] (by simpa using⟨pUnit,f3h⟩) f39 (λ_ _=>none) c8v ?_ ?_ Tryz.func237 Dw Dw Dw ?_
 .intro args pre s h e;unfold c8v at h;split at h
  .rename_i a b k c d;cases h;exact⟨(a,b,k,c,d),by simp[f39,BM,SV.le2,SV.le1,BH,SV.le0],e,rfl⟩
  .cases h
 .exact Bz
 .rintro⟨a,b,k,c,d⟩ e;replace e:AE .i64 (a-c)/\AE .u8 b/\AE .u8 d:=e;refine X0 _ ?_;(repeat' first|constructor|intro h)<;>refine Lm ?_
  all_goals(first|exact e|rfl)
def KZ(x:Cr)(a b:Int):Int:=JH x.c x.e a b
def IZ(l:List Cr)(a b:Int):Nat:=(l.takeWhile λx=>decide (KZ x a b<0)).length
def LQ(l:List Cr)(a b:Int):Bool:=and (decide ((IZ l a b:Int)<l.length)) (decide (KZ (l.getD (IZ l a b) d0) a b=0))
theorem c8j{a b:Int}:∀(l:List Cr) (i:Nat),i<=l.length->(∀k,k<i->KZ (l.getD k d0) a b<0)->(i<l.length->0<=KZ (l.getD i d0) a b)->IZ l a b=i
 | [],i,h,_,_=>by simp at h;simp[IZ,h]
 |x::l,0,_,_,h=>by have:=h Dx;simp at this;have:¬KZ x a b<0:=Dv;simp[IZ,this]
 |x::l,i+1,h,c,f=>by have:=c 0 Dv;simp at this;have d:=c8j l i E2 (λk e=>by simpa using c (k+1) Dv) (λe=>by simpa using f (by simpa using e));simp only[IZ]at d⊢;simp[this,d]
def Sj(l:List Cr):Prop:=∀i j,i<j->j<l.length->JH (l.getD i d0).c (l.getD i d0).e (l.getD j d0).c (l.getD j d0).e<0
def TC(l:List Cr):Prop:=∀x∈l,0<=x.c/\x.c<=2000/\AE .u8 x.e
def kBs:AM
 | [x,.agg [.int .i64 a,.int .u8 b],.clo g []]=>if g=237 then match PT x with
   |some (n,f)=>some ((MN n f/\n<=100000)/\Sj (EF n f)/\TC (EF n f)/\0<=a/\a<=2000/\AE .u8 b,.tup [.int .i64 (IZ (EF n f) a b),.bool (LQ (EF n f) a b)])
   |none=>none
   else none
 |_=>none
def FBs:Fam:=⟨List Cr×Int×Int,λ(l,a,b)=>[.sl 3 l.length (DZ l) none,.agg [.int .i64 a,.int .u8 b],.clo 237 []],λ(l,a,b)=>l.length<=100000/\Sj l/\TC l/\0<=a/\a<=2000/\AE .u8 b,λ(l,a,b)=>.tup [.int .i64 (IZ l a b),.bool (LQ l a b)]⟩
def IBs:List Cr×Int×Int->Nat->Option Inv
 |(l,a,b),3=>some {β:=Nat×Nat,ok:=λ(i,j)=>i<=j/\j<=l.length/\(∀k,k<i->KZ (l.getD k d0) a b<0)/\∀k,j<=k->k<l.length->0<=KZ (l.getD k d0) a b,st:=λ(i,j)=>⟨[⟨10,none,.int .i64 j⟩,⟨9,none,.int .i64 i⟩,⟨8,none,.int .i64 l.length⟩,⟨7,none,.bool false⟩,⟨6,none,.int .i64 0⟩,⟨4,none,.own 0 0⟩,⟨2,none,.clo 237 []⟩,⟨0,none,.sl 3 l.length (DZ l) none⟩],[.cells 100 [.int .i64 a,.int .u8 b]]⟩,μ:=λ(i,j)=>j-i}
 |_,_=>none
theorem pBs:PS 236 kBs:=by
 refine con [(237,c8v)] (by simpa using pFind1) FBs IBs kBs ?_ ?_ Tryz.func236 Dw Dw Dw ?_
 .intro args pre s h d;unfold kBs at h;split at h
  .split at h
   .rename_i z;subst z;split at h
    .rename_i n f hx;rename_i a b _;cases h;exact⟨(EF n f,a,b),⟨Hl (Sa hx d.1.1),Eb,⟨rfl,rfl⟩,J5⟩,⟨by simp only[Sh];exact d.1.2,d.2⟩,rfl⟩
    .cases h
   .cases h
  .cases h
 .exact C1
 .rintro⟨l,a,b⟩ d;replace d:l.length<=100000/\Sj l/\TC l/\0<=a/\a<=2000/\AE .u8 b:=d;refine X0 _ ?_;(repeat' first|constructor|intro h)<;>refine Lm ?_
  refine⟨((0:Nat),l.length),⟨Dv,Dv,λk m=>Dv,λk v o=>Dv⟩,?_,?_⟩
  .exact X0c
  .rintro⟨i,j⟩ ⟨v,o,r,t⟩;replace v:i<=j:=v;replace o:j<=l.length:=o;replace r:∀k,k<i->KZ (l.getD k d0) a b<0:=r;replace t:∀k,j<=k->k<l.length->0<=KZ (l.getD k d0) a b:=t;have g:((i:Int)+j)/2^Int.toNat 1=(((i+j)/2:Nat):Int):=by
    have:(2:Int)^Int.toNat 1=2:=rfl;rw[this];omega
   have w:∀k,k<l.length->AE .i64 ((l.getD k d0).c-a)/\AE .u8 (l.getD k d0).e/\AE .u8 b:=λk m=>by have q:=d.2.2.1 _ (b4r m);exact⟨Ff,q.2.2,d.2.2.2.2.2⟩
   refine X0 _ ?_;(repeat' first|constructor|intro h)<;>refine Lm ?_
   all_goals(first
    |(have x:i<j:=by simpa using(by assumption:decide ((i:Int)<(j:Int))=true)
      first
      |exact A7
      |decide
      |(rw[g];simp only[AE];omega)
      |(rw[g];omega)
      |(rw[g,Jk];exact w _ Dv)
      |(rw[g,Jk]at h
        have h:KZ (l.getD ((i+j)/2) d0) a b<0:=K7 h;refine⟨((i+j)/2+1,j),⟨Fu,o,λk m=> ?_,t⟩,by show j-((i+j)/2+1)<j-i;omega,?_⟩
        .replace m:k<(i+j)/2+1:=m;by_cases e:k=(i+j)/2
         .rw[e];exact h
         .have q:=d.2.1 k ((i+j)/2) Dv Dv;unfold KZ at h⊢;unfold JH at h q⊢;grind)
      |(rw[g,Jk]at h
        have h:0<=KZ (l.getD ((i+j)/2) d0) a b:=Int.not_lt.1 (M6 h);refine⟨(i,(i+j)/2),⟨Fv,by show (i+j)/2<=l.length;omega,r,λk k1 k2=> ?_⟩,by show (i+j)/2-i<j-i;omega,?_⟩
        .replace k1:(i+j)/2<=k:=k1;by_cases e:k=(i+j)/2
         .rw[e];exact h
         .have q:=d.2.1 ((i+j)/2) k Dv Dv;unfold KZ at h⊢;unfold JH at h q⊢;grind))
    |(have x:i=j:=by(have:¬((i:Int)<(j:Int)):=by simpa using(by assumption:decide ((i:Int)<(j:Int))=false));omega
      subst x;have y:=c8j l i o r (λk=>t i (J9 _) k);first
      |(intro q;(have q:i<l.length:=by simpa using q);omega)
      |(intro q;(have q:i<l.length:=by simpa using q);exact w i q)
      |(rw[y])
      |(unfold LQ;rw[y];rfl))
    |skip)
   all_goals refine X0 _ ?_;(repeat' first|constructor|intro h)<;>refine Lm ?_
   all_goals first|exact A6|(rw[g];rfl)|(rw[g];omega)|skip
def d7z:AM
 | [x,.agg [.int .i64 a,.int .u8 b]]=>match PT x with
   |some (n,f)=>some ((MN n f/\n<=100000)/\Sj (EF n f)/\TC (EF n f)/\0<=a/\a<=2000/\AE .u8 b,.tup [.int .i64 (IZ (EF n f) a b),.bool (LQ (EF n f) a b)])
   |none=>none
 |_=>none
def FFind:Fam:=⟨List Cr×Int×Int,λ(l,a,b)=>[.sl 3 l.length (DZ l) none,.agg [.int .i64 a,.int .u8 b]],λ(l,a,b)=>l.length<=100000/\Sj l/\TC l/\0<=a/\a<=2000/\AE .u8 b,λ(l,a,b)=>.tup [.int .i64 (IZ l a b),.bool (LQ l a b)]⟩
theorem pFind:PS 204 d7z:=by
 refine con [(236,kBs)] (by simpa using pBs) FFind (λ_ _=>none) d7z ?_ ?_ Tryz.func204 Dw Dw Dw ?_
 .intro args pre s h c;unfold d7z at h;split at h
  .split at h
   .rename_i n f hx;rename_i a b _;cases h;exact⟨(EF n f,a,b),⟨Hl (Sa hx c.1.1),Eb,J5⟩,⟨by simp only[Sh];exact c.1.2,c.2⟩,rfl⟩
   .cases h
  .cases h
 .exact Bz
 .rintro⟨l,a,b⟩ c;replace c:l.length<=100000/\Sj l/\TC l/\0<=a/\a<=2000/\AE .u8 b:=c;refine X0 _ ?_;(repeat' first|constructor|intro h)<;>refine Lm ?_
  all_goals(try rw[CU])
  all_goals(first|rfl|exact⟨⟨FF _,c.1⟩,c.2⟩|skip)
theorem FO{p:Pt}(h:BE p=0):AV p.W p.H=0/\p.l.any MH=false/\p.l.any (PN p)=false/\(List.range (p.l.length-1)).any (ON p)=false:=by unfold BE at h;grind
theorem d0k{a b c d e f:Int}(h:JH a b c d<0)(k:JH c d e f<0):JH a b e f<0:=by unfold JH at*;grind
theorem b91{p:Pt}(h:BE p=0):Sj p.l:=by
 obtain⟨_,_,_,a⟩:=FO h;rw[Jg]at a;have step:∀i,i+1<p.l.length->JH (p.l.getD i d0).c (p.l.getD i d0).e (p.l.getD (i+1) d0).c (p.l.getD (i+1) d0).e<0:=λi hi=>by have:=a i (Jn.2 Dv);simp[ON]at this;simpa using this
 intro i j dw;induction j with
 |zero=>omega
 |succ j d=>
  intro b;by_cases e:i=j
  .subst e;exact step i b
  .exact d0k (d Dv Dv) (step j b)
theorem f1r{p:Pt}(h:BE p=0)(b:∀c∈p.l,AE .u8 c.e):TC p.l:=by obtain⟨d,_,a,_⟩:=FO h;intro x hx;rw[Jg]at a;have:=a x hx;simp[PN]at this;have q:=b1g d this.1;exact⟨q.1,Dv,b x hx⟩
theorem nm_le{W H i e:Int}(hs:AV W H=0)(h:AX W H i e=0):0<=EI W H i e/\EI W H i e<=2000:=by
 have q:=b1g hs h;have z:=b8f (b3k h);have v:0<=AG W H i e:=by
  unfold AG;split
  .split
   .unfold QY;split
    .rename_i b;have w:∀X Y Q:Int,Ll W H X Y Q=0->0<=Q->0<=4*(Y*W+X)+Q:=λX Y Q h hQ=>by
      unfold Ll at h;rw[Iz hs]at h;split at h
      .rename_i a;have:=f8g (X:=X) (Y:=Y) hs a.2.1 a.2.2.1 a.2.2.2.1 a.2.2.2.2;omega
      .cases h
     refine w _ _ _ b ?_;have q3:=(TY W H i).1;unfold IK;split
     .unfold EN;have:∀l:List Int,(∀x∈l,0<=x)->∀n,0<=l.getD n 0:=λl c n=>by
       rw[Ix];cases hh:l[n]? with
       |none=>simp
       |some y=>exact c y (J6 hh)
      refine this _ (λx hx=> ?_) _;simp only[Jd,List.mem_nil_iff,or_false]at hx;rcases hx with rfl|rfl|rfl<;>exact this _ Dy _
     .omega
    .omega
   .omega
  .omega
 unfold EI;rw[Iz h];omega
def IY(p:Pt)(i e:Int):Int:=if BE p=0 then AX p.W p.H i e else BE p
def XN(p:Pt)(i e:Int):Int:=if IY p i e=0 then EI p.W p.H i e else 0
def atD(p:Pt)(i e:Int):Int:=if IY p i e=0 then FC p.W p.H i e else 0
def QC(p:Pt)(i e:Int):Int:=if IY p i e=0 then(IZ p.l (EI p.W p.H i e) (FC p.W p.H i e):Int)else 0
def LZ(p:Pt)(i e:Int):Bool:=bif decide (IY p i e=0)then LQ p.l (EI p.W p.H i e) (FC p.W p.H i e)else false
def kAt:AM
 | [x,.int .i64 i,.int .u8 e]=>match PP x with
   |some (a,p)=>some (a/\(∀c∈p.l,AE .u8 c.e)/\0<=e/\e<=255,.tup [.agg [.int .i64 (XN p i e),.int .u8 (atD p i e)],.int .i64 (QC p i e),.bool (LZ p i e),.int .i64 (IY p i e)])
   |none=>none
 |_=>none
def FAt:Fam:=⟨Pt×Int×Int,λ(p,i,e)=>[Eo p,.int .i64 i,.int .u8 e],λ(p,_,e)=>p.l.length<=100000/\(∀c∈p.l,AE .u8 c.e)/\0<=e/\e<=255,λ(p,i,e)=>.tup [.agg [.int .i64 (XN p i e),.int .u8 (atD p i e)],.int .i64 (QC p i e),.bool (LZ p i e),.int .i64 (IY p i e)]⟩
theorem pAt:PS 180 kAt:=by
 refine con [(116,b66),(157,TL),(204,d7z)] (by simpa using⟨d3i,d99,pFind⟩) FAt (λ_ _=>none) kAt ?_ ?_ Tryz.func180 Dw Dw Dw ?_
 .intro args pre s h hp;unfold kAt at h;split at h
  .split at h
   .rename_i a p hx;rename_i i e _;cases h;exact Di
   .cases h
  .cases h
 .exact C1
 .rintro⟨p,i,e⟩ hp;replace hp:p.l.length<=100000/\(∀c∈p.l,AE .u8 c.e)/\0<=e/\e<=255:=hp;refine X0 _ ?_;(repeat' first|constructor|intro h)<;>refine Lm ?_
  all_goals(try simp only[CU]at*)
  all_goals(have g:=@nm_le p.W p.H i e;have j:=@FO p;have k:=@b91 p;have hs:=@f1r p)
  all_goals(have m:AX p.W p.H i e=0->FC p.W p.H i e=e:=λh=>by(unfold FC;rw[if_pos h]))
  all_goals(first
   |exact⟨⟨FF _,hp.1⟩,hp.2.1⟩
   |exact hp.2.2.1
   |(have b:BE p=0:=by simpa using(by assumption:(!decide (BE p=0))=false)
     have d:AX p.W p.H i e=0:=by simpa using(by assumption:(!decide (AX p.W p.H i e=0))=false)
     have f:=g (j b).1 d;first
     |(refine⟨⟨FF _,hp.1⟩,k b,hs b hp.2.1,f.1,f.2,?_⟩;rw[m d];exact⟨hp.2.2.1,hp.2.2.2⟩)
     |simp[IY,XN,atD,QC,LZ,b,d])
   |(have b:BE p=0:=by simpa using(by assumption:(!decide (BE p=0))=false)
     have d:¬AX p.W p.H i e=0:=by simpa using(by assumption:(!decide (AX p.W p.H i e=0))=true)
     simp[IY,XN,atD,QC,LZ,b,d];done)
   |(have b:¬BE p=0:=by simpa using(by assumption:(!decide (BE p=0))=true)
     simp[IY,XN,atD,QC,LZ,b];done)
   |skip)
theorem ptEta(p:Pt):(⟨p.W,p.H,p.l⟩:Pt)=p:=rfl
def AW(p:Pt)(i e:Int):Int:=bif LZ p i e then(p.l.getD (IZ p.l (EI p.W p.H i e) (FC p.W p.H i e)) d0).k else 0
def c6m:AM
 | [x,.int .i64 i,.int .u8 e]=>match PP x with
   |some (a,p)=>some (a/\(∀c∈p.l,AE .u8 c.e)/\0<=e/\e<=255,.tup [.int .u8 (AW p i e),.int .i64 (IY p i e)])
   |none=>none
 |_=>none
def FPKind:Fam:=⟨Pt×Int×Int,λ(p,i,e)=>[Eo p,.int .i64 i,.int .u8 e],λ(p,_,e)=>p.l.length<=100000/\(∀c∈p.l,AE .u8 c.e)/\0<=e/\e<=255,λ(p,i,e)=>.tup [.int .u8 (AW p i e),.int .i64 (IY p i e)]⟩
theorem pPKind:PS 137 c6m:=by
 refine con [(180,kAt)] (by simpa using pAt) FPKind (λ_ _=>none) c6m ?_ ?_ Tryz.func137 Dw Dw Dw ?_
 .intro args pre s h hp;unfold c6m at h;split at h
  .split at h
   .rename_i a p hx;rename_i i e _;cases h;exact Di
   .cases h
  .cases h
 .exact C1
 .rintro⟨p,i,e⟩ hp;replace hp:p.l.length<=100000/\(∀c∈p.l,AE .u8 c.e)/\0<=e/\e<=255:=hp;refine X0 _ ?_;(repeat' first|constructor|intro h)<;>refine Lm ?_
  all_goals(try simp only[CU,ptEta]at*)
  all_goals(have g:LZ p i e=true->IY p i e=0/\LQ p.l (EI p.W p.H i e) (FC p.W p.H i e)=true:=λh=>by(unfold LZ at h;grind))
  all_goals(first
   |exact⟨⟨FF _,hp.1⟩,hp.2⟩
   |rfl
   |(have d:LZ p i e=true:=by grind
     have b:=g d;have f:QC p i e=(IZ p.l (EI p.W p.H i e) (FC p.W p.H i e):Int):=by unfold QC;rw[if_pos b.1]
     first
     |(show 0<=QC p i e/\QC p i e<_
       rw[f];have q:=b.2;unfold LQ at q;grind)
     |(show (p.l.getD (QC p i e).toNat d0).k=_
       rw[f,Jk];unfold AW;rw[d,cond_true])
     |exact b.1.symm)
   |(have d:IY p i e=0->LZ p i e=false:=by grind
     have b:LZ p i e=false:=by grind
     unfold AW;rw[b,cond_false])
   |skip)
def GD(q:List Int)(x:Cr):Bool:=decide (q=[x.c,x.e])
def EE(l:List Cr)(q:List Int):Bool:=l.any (GD q)
def b4k:AM
 | [x]=>match PP x with
   |some (a,p)=>some (a/\∀c∈p.l,AE .u8 c.e,.mp (.ints [.i64,.u8]) false (EE p.l) (λq=>[.bool (EE p.l q)]))
   |none=>none
 |_=>none
def d9w:Fam:=⟨Pt,λp=>[Eo p],λp=>p.l.length<=100000/\∀c∈p.l,AE .u8 c.e,λp=>.mp (.ints [.i64,.u8]) false (EE p.l) (λq=>[.bool (EE p.l q)])⟩
def f1s(p:Pt):Nat->Option Inv
 |3=>some {β:=Nat,ok:=λi=>i<=p.l.length,st:=λi=>⟨[⟨13,none,.int .i64 i⟩,⟨12,none,.int .i64 p.l.length⟩,⟨11,none,.sl 3 p.l.length (DZ p.l) none⟩,⟨3,none,.omp 1⟩,⟨2,none,.con (.map none)⟩],[.cells 29 [.int .i64 p.W,.int .i64 p.H,.sl 3 p.l.length (DZ p.l) none],.map (.ints [.i64,.u8]) false (EE (p.l.take i)) (λ_=>[.bool true])]⟩,μ:=λi=>p.l.length-i}
 |_=>none
theorem b7k{l:List Cr}{i:Nat}(hi:i<l.length)(q:List Int):(decide (q=[(l.getD i d0).c,(l.getD i d0).e])||EE (l.take i) q)=EE (l.take (i+1)) q:=by
 have:l.take (i+1)=l.take i++[l.getD i d0]:=by rw[M0];congr 1;simp[hi]
 unfold EE;rw[this,N2];simp[GD,Bool.or_comm]
theorem f2u:PS 160 b4k:=by
 refine con [] Dx d9w f1s b4k ?_ ?_ Tryz.func160 Dw Dw Dw ?_
 .intro args pre s h hp;unfold b4k at h;split at h
  .split at h
   .rename_i a p hx;cases h;exact Cy
   .cases h
  .cases h
 .exact C0
 .rintro(p:Pt) hp;replace hp:p.l.length<=100000/\∀c∈p.l,AE .u8 c.e:=hp;refine X0 _ ?_;(repeat' first|constructor|intro h)<;>refine Lm ?_
  refine⟨(0:Nat),Je _,?_,?_⟩
  .refine X0 _ ?_;(repeat' first|constructor|intro h)<;>refine Lm ?_
   all_goals first|exact A6|(intro q;first|rfl|(intro f;exact absurd f Dx))|skip
  .intro i d;replace d:i<=p.l.length:=d;refine X0 _ ?_;(repeat' first|constructor|intro h)<;>refine Lm ?_
   all_goals(first
    |(have q:i<p.l.length:=by simpa using h
      first
      |exact Ap
      |refine⟨i+1,q,Dv,?_⟩)
    |(have q:p.l.length<=i:=by simpa using h
      intro u;first
      |(rw[L6 q];done)
      |(rw[L6 q];intro w;rw[w]))
    |skip)
   all_goals refine X0 _ ?_;(repeat' first|constructor|intro h)<;>refine Lm ?_
   all_goals first|exact Ay|(intro u;have q:i<p.l.length:=E2;first|exact b7k q u|(intro _;cases decide (u=[(p.l.getD (i:Int).toNat d0).c,(p.l.getD (i:Int).toNat d0).e])<;>rfl))|skip
def HC(a b:Mv):Mv:=⟨Qp a.t a.x a.y b.t b.x b.y,Wv a.t a.x a.y b.t b.x b.y,VJ a.t a.x a.y b.t b.x b.y⟩
def EW(k C:Int):Mv:=⟨keep (FY k C) (Og k),keep (FY k C) (RE k C),keep (FY k C) (Ri k C)⟩
def DG(W H i e:Int):List Int:=[EI W H i e,FC W H i e]
def IR(W H:Int)(has:List Int->Bool)(m:Mv)(i e:Int):Mv:=
 bif has (DG W H i e)then HC (EW (UF W H (EI W H i e) (FC W H i e)) (Un W H (EI W H i e) (FC W H i e))) m else m
def c0p:AM
 | [.int .i64 i,.int .u8 e,.rel 3 1 g 0 0,.rel 1 1 b 0 0,.rel 1 1 c 0 0]=>match g 0,b 0,c 0 with
   | [.int .i64 W,.int .i64 H,_],[.mp (.ints [.i64,.u8]) false a val],[.sl 3 m h _]=>
     some ((0<=e/\0<=i/\i<m)/\h=AH.row (AH.lst m h)/\(∀q,val q=[.bool (a q)])/\(∀x∈AH.lst m h,0<=x.t/\x.t<=255),
      .agg (AH.sv (IR W H a ((AH.lst m h).getD i.toNat AH.d) i e)))
   |_,_,_=>none
 |_=>none
def d1g:Fam:=⟨(Int×Int×Int×Int)×SV×(List Int->Bool)×List Mv×Option Nat,
 λ((i,e,W,H),b,a,L,c)=>[.int .i64 i,.int .u8 e,.rel 3 1 (λ_=>[.int .i64 W,.int .i64 H,b]) 0 0,.rel 1 1 (λ_=>[.mp (.ints [.i64,.u8]) false a (λq=>[.bool (a q)])]) 0 0,.rel 1 1 (λ_=>[.sl 3 L.length (AH.row L) c]) 0 0],
 λ((i,e,_,_),_,_,L,_)=>(0<=e/\0<=i/\i<L.length)/\∀x∈L,0<=x.t/\x.t<=255,
 λ((i,e,W,H),_,a,L,_)=>.agg (AH.sv (IR W H a (L.getD i.toNat AH.d) i e))⟩
theorem f99:PS 161 c0p:=by
 refine con [(157,TL),(162,b1u),(55,d6s),(83,VP)] (by simpa using⟨d99,d0u,pMvOf,f8k⟩) d1g (λ_ _=>none) c0p ?_ ?_ Tryz.func161 Dw Dw Dw ?_
 .intro args pre s h b;unfold c0p at h;split at h
  .split at h
   .rename_i i e g g2 g3 _ _ _ W H f a val m l c n o r;cases h;obtain⟨u,v,w,y⟩:=b;have z:val=λq=>[.bool (a q)]:=Mw w;refine⟨((i,e,W,H),f,a,AH.lst m l,c),?_,⟨by rw[RT.lst_length];exact u,y⟩,rfl⟩;simp only[d1g,BM,SV.le2,SV.le1,SV.le0,Ke,Ni,and_true,RT.lst_length];refine⟨λj k=> ?_,λj k=> ?_,λj k=> ?_⟩
    .rw[show j=0 from Dv,n]
    .rw[show j=0 from Dv,o,z]
    .rw[show j=0 from Dv,r,<-v]
   .cases h
  .cases h
 .exact Cf
 .rintro⟨⟨i,e,W,H⟩,f,a,L,c⟩ b;replace b:(0<=e/\0<=i/\i<L.length)/\∀x∈L,0<=x.t/\x.t<=255:=b;refine X0 _ ?_;(repeat' first|constructor|intro h)<;>refine Lm ?_
  all_goals(have A:0<=FC W H i e:=by(unfold FC;split<;>omega))
  all_goals(first
   |exact b.1.1
   |exact b.1.2
   |exact A
   |(intro q;rw[q];rfl)
   |(have q:a (DG W H i e)=false:=by simpa[DG]using h
     unfold IR;rw[q,cond_false])
   |(have q:a (DG W H i e)=true:=by simpa[DG]using h
     unfold IR;rw[q,cond_true];rfl)
   |(have m:L.getD i.toNat AH.d∈L:=by simp[show i.toNat<L.length from Dv]
     refine⟨?_,b.2 _ m⟩;unfold keep Og;split<;>omega)
   |(have m:L.getD i.toNat AH.d∈L:=by simp[Ix,show i.toNat<L.length from Dv]
     refine⟨?_,b.2 _ m⟩;unfold keep Og;grind)
   |skip)
theorem nv_le{W H i e:Int}(hs:AV W H=0)(c:0<=e)(h:AX W H i e=0):0<=AG W H i e/\AG W H i e<4*(W*H):=by
 have b:=b3k h;have hq:=d2r (X:=BZ W H i) (Y:=Bl W H i) (TY W H i).1 c;unfold AX at h;rw[Iz b]at h;split at h
 .rename_i d;unfold AG;rw[Iz b,Iz d];unfold QY;rw[Iz h];unfold Ll at h;rw[Iz hs]at h;split at h
  .rename_i a;have:=f8g (X:=JM (BZ W H i) (Bl W H i) (CB W H i) e) (Y:=JO (BZ W H i) (Bl W H i) (CB W H i) e) hs a.2.1 a.2.2.1 a.2.2.2.1 a.2.2.2.2;omega
  .cases h
 .cases h
theorem c6q{t x y u z w:Int}(b:0<=t)(c:0<=u):0<=Qp t x y u z w/\Qp t x y u z w<=255:=by
 unfold Qp keep;split
 .rename_i h;unfold HF at h;split at h
  .rename_i a;have:=cT_le b (TW a.1).1 c (TW a.2).1;omega
  .cases h
 .omega
theorem d74(k C:Int):0<=(EW k C).t/\(EW k C).t<=255:=by simp only[EW];unfold keep Og;grind
theorem c2f{W H:Int}{has:List Int->Bool}{m:Mv}{i e:Int}(a:0<=m.t/\m.t<=255):0<=(IR W H has m i e).t/\(IR W H has m i e).t<=255:=by
 unfold IR;cases has (DG W H i e)
 .exact a
 .exact c6q (d74 _ _).1 a.1
theorem b2t{l:List Bool}:∀{n:Nat},n<l.length->l.getD n false=false->(l.set n true).count false+1=l.count false:=by
 induction l with
 |nil=>intro n h;simp at h
 |cons b l c=>
  intro n h a;match n with
  |0=>
   simp at a;subst a;simp
  |n+1=>
   have:=c (n:=n) E2 (by simpa using a);cases b<;>simp[]<;>omega
theorem b3r{l:List Mv}{n:Nat}{m:Mv}{q:Mv->Prop}(a:∀x∈l,q x)(b:q m):∀x∈l.set n m,q x:=by
 intro x hx;rcases M3 hx with hx|rfl
 .exact a x hx
 .exact b
structure BS where
 out:List Mv
 kn:List Bool
 wt:List Int
def LK(W H:Int)(has:List Int->Bool)(s:BS)(i e:Int):Option BS:=
 if AX W H i e=0 then
  let n:=(AG W H i e).toNat
  let m:=IR W H has (s.out.getD i.toNat AH.d) i e
  let a:BS:=bif s.kn.getD n false then s else⟨s.out.set n m,s.kn.set n true,s.wt++[AG W H i e]⟩
  if a.out.getD n AH.d=m then some a else none
 else some s
def MZ(W H:Int)(has:List Int->Bool)(i:Int):List Int->BS->Option BS
 | [],s=>some s
 |e::l,s=>(LK W H has s i e).bind (MZ W H has i l)
def IV(W H:Int)(has:List Int->Bool):Nat->BS->Option (List Mv)
 |0,s=>match s.wt with
  | []=>some s.out
  |_::_=>none
 |f+1,s=>match s.wt with
  | []=>some s.out
  |i::r=>(MZ W H has i [0,1,2] ⟨s.out,s.kn,r⟩).bind (IV W H has f)
def FW(p:Pt):Nat:=(4*p.W*p.H).toNat
def FQ(n:Nat):BS:=⟨List.replicate n AH.d,(List.replicate n false).set 0 true,[0]⟩
def NQ(p:Pt):Option (List Mv):=IV p.W p.H (EE p.l) (2*FW p+1) (FQ (FW p))
def JC(p:Pt):Int:=if(NQ p).isSome then 0 else 11
def BD(p:Pt):List Mv:=(NQ p).getD []
def hRel:HK:=λb own=>match b,own with
 | [x],[]=>match PP x with
   |some (a,p)=>some ⟨a/\(∀c∈p.l,AE .u8 c.e)/\BE p=0,.tup [.osl 0,.int .i64 (JC p)],[.row 31 3 (BD p).length (AH.row (BD p)) none],[]⟩
   |none=>none
 |_,_=>none
def FRel:FamH:=⟨Pt,λp=>[Eo p],λ_=>[],λp=>p.l.length<=100000/\(∀c∈p.l,AE .u8 c.e)/\BE p=0,λp=>.tup [.osl 0,.int .i64 (JC p)],λp=>[.row 31 3 (BD p).length (AH.row (BD p)) none],[]⟩
def c54(t:Nat)(T:TypeId)(sz:Nat)(st:St):List Ghost:=match CJ t st.ρ with
 |some e=>match e.sv with
  |.osl k=>[.sel [k]]
  |_=>[.nil t T sz,.sel [st.own.length]]
 |none=>[]
def KH(s:BS):Nat:=s.kn.count false
def lens(p:Pt)(s:BS):Prop:=s.out.length=FW p/\s.kn.length=FW p/\(∀i∈s.wt,0<=i/\i<FW p)/\∀m∈s.out,0<=m.t/\m.t<=255
def ownR(p:Pt)(s:BS):List Blk:=[.cells 29 [.int .i64 p.W,.int .i64 p.H,.sl 3 p.l.length (DZ p.l) none],.cells 249 [.mp (.ints [.i64,.u8]) false (EE p.l) (λq=>[.bool (EE p.l q)])],.row 31 3 s.out.length (AH.row s.out) none,.cells 53 [.osl 2],.row 4 1 s.kn.length (GM.row s.kn) none,.row 3 1 s.wt.length (AC.row s.wt) none]
def IRel(p:Pt):Nat->Option Inv
 |7=>some {β:=BS×Nat,ok:=λ(s,f)=>lens p s/\NQ p=IV p.W p.H (EE p.l) f s/\2*KH s+s.wt.length<=f/\f<=2*FW p+1,st:=λ(s,_)=>⟨[⟨8,none,.osl 5⟩,⟨7,none,.clo 161 [.own 0 0,.own 1 0,.own 3 0]⟩,⟨6,none,.osl 4⟩,⟨5,none,.own 3 0⟩,⟨3,none,.int .i64 0⟩,⟨2,none,.con (.slice none 0 0)⟩,⟨1,none,.own 0 0⟩],ownR p s⟩,μ:=λ(_,f)=>f,sub:=λ(_,f)=>some fun
   |11=>some {β:=BS×Nat×Int,ok:=λ(s,e,i)=>e<=3/\lens p s/\(0<=i/\i<FW p)/\NQ p=(MZ p.W p.H (EE p.l) i ([0,1,2].drop e) s).bind (IV p.W p.H (EE p.l) (f-1))/\2*KH s+s.wt.length<=f-1/\0<f/\f<=2*FW p+1,st:=λ(s,e,i)=>⟨[⟨35,none,.int .u8 e⟩,⟨9,none,.int .i64 i⟩,⟨8,none,.osl 5⟩,⟨7,none,.clo 161 [.own 0 0,.own 1 0,.own 3 0]⟩,⟨6,none,.osl 4⟩,⟨5,none,.own 3 0⟩,⟨3,none,.int .i64 0⟩,⟨2,none,.con (.slice none 0 0)⟩,⟨1,none,.own 0 0⟩],ownR p s⟩,μ:=λ(_,e,_)=>3-e}
   |_=>none}
 |_=>none
theorem c0q{W H:Int}{has:List Int->Bool}{f:Nat}{s:BS}(h:s.wt=[]):IV W H has f s=some s.out:=by cases f<;>simp[IV,h]
theorem b93{W H:Int}{has:List Int->Bool}{f:Nat}{s:BS}{i:Int}{r:List Int}(h:s.wt=i::r):IV W H has (f+1) s=(MZ W H has i [0,1,2] ⟨s.out,s.kn,r⟩).bind (IV W H has f):=by simp[IV,h]
theorem b8m{W H:Int}{has:List Int->Bool}{i:Int}{e:Nat}{s:BS}(h:e<3):MZ W H has i ([0,1,2].drop e) s=(LK W H has s i e).bind (MZ W H has i ([0,1,2].drop (e+1))):=by have:e=0\/e=1\/e=2:=Dv;rcases this with rfl|rfl|rfl<;>rfl
theorem mvEq(a b:Mv):(decide (a.t=b.t)&&(decide (a.x=b.x)&&(decide (a.y=b.y)&&true)))=decide (a=b):=by cases a;cases b;simp[Bool.decide_and]
theorem b25{W H:Int}{has:List Int->Bool}{s:BS}{i e:Int}(h:AX W H i e=0)(a:s.kn.getD (AG W H i e).toNat false=true):
 LK W H has s i e=if s.out.getD (AG W H i e).toNat AH.d=IR W H has (s.out.getD i.toNat AH.d) i e then some s else none:=by
 simp only[LK,Iz h,a,Mz]
theorem c2r{W H:Int}{has:List Int->Bool}{s:BS}{i e:Int}(h:AX W H i e=0)(a:s.kn.getD (AG W H i e).toNat false=false)(b:(AG W H i e).toNat<s.out.length):
 LK W H has s i e=some ⟨s.out.set (AG W H i e).toNat (IR W H has (s.out.getD i.toNat AH.d) i e),s.kn.set (AG W H i e).toNat true,s.wt++[AG W H i e]⟩:=by
 simp only[LK,Iz h,a,cond_false];rw[Iz];rw[Ix,K4 b];rfl
theorem Wp{α:Type}(n i:Nat)(d:α):(List.replicate n d).getD i d=d:=by rw[Ix,List.getElem?_replicate];split<;>rfl
theorem OJ(n i:Nat)(h:0<n):((List.replicate n false).set 0 true).getD i false=decide (i=0):=by
 match n,i with
 |n+1,0=>rfl
 |n+1,i+1=>simpa[List.replicate_succ]using Wp n i false
theorem b2v{p:Pt}(h:AV p.W p.H=0):4<=FW p/\FW p<=1024/\EA p.W p.H=FW p:=by have z:=Qa h;unfold FW EA;rw[Iz h];omega
theorem pRel:HS 117 hRel:=by
 refine HG {l:=[(160,b4k),(103,Vb),(110,UG),(161,c0p)],G:={gx:=c54 2 31 3}} ⟨by simpa using⟨f2u,d3b,b1j,f99⟩,Dx,Dx⟩ FRel IRel hRel ?_ ?_ ?_ Tryz.func117 Dw Dw Dw ?_
 .intro args own r h u;unfold hRel at h;split at h
  .split at h
   .rename_i a p hx;cases h;exact⟨p,⟨(QX hx u.1).1,J5⟩,rfl,J5,⟨(QX hx u.1).2,u.2⟩,rfl,rfl,rfl⟩
   .cases h
  .cases h
 .exact C0
 .intro i;exact Je _
 .rintro(p:Pt) μ u;replace u:p.l.length<=100000/\(∀c∈p.l,AE .u8 c.e)/\BE p=0:=u;have hs:=(FO u.2.2).1;obtain⟨n1,n2,M⟩:=b2v hs;refine X0 _ ?_;(repeat' first|constructor|intro h)<;>refine Lm ?_
  all_goals(try simp only[M,CU])
  all_goals(first
   |exact⟨⟨FF _,u.1⟩,u.2.1⟩
   |omega
   |exact At
   |skip)
  refine⟨(FQ (FW p),2*FW p+1),⟨⟨?_,?_,?_,?_⟩,rfl,?_,J9 _⟩,?_,?_⟩
  .simp[FQ]
  .simp[FQ]
  .intro i o;simp[FQ]at o;omega
  .intro m N;have:m=AH.d:=(List.mem_replicate.1 N).2;rw[this];decide
  .have:KH (FQ (FW p))<=FW p:=by
    unfold KH;refine Kq List.count_le_length ?_;simp[FQ]
   show 2*KH (FQ (FW p))+1<=_;omega
  .refine X0 _ ?_;(repeat' first|constructor|intro h)<;>refine Lm ?_
   all_goals(first
    |exact A6
    |exact Bp
    |(simp[FQ];done)
    |(intro i o;show _=AH.sv (List.getD _ i AH.d);rw[show (FQ (FW p)).out=List.replicate (FW p) AH.d from rfl,Wp];rfl)
    |(intro i o
      show DC (decide (i=0)) _ _=GM.sv (List.getD _ i false);rw[show (FQ (FW p)).kn=(List.replicate (FW p) false).set 0 true from rfl,OJ _ _ Dv];generalize decide (i=0)=b;cases b<;>rfl)
    |(intro i o;(have:i=0:=Dv);subst this;rfl)
    |skip)
  .rintro⟨s,f⟩ ⟨k,hr,v,y⟩;replace k:lens p s:=k;replace hr:NQ p=IV p.W p.H (EE p.l) f s:=hr;replace v:2*KH s+s.wt.length<=f:=v;replace y:f<=2*FW p+1:=y;refine X0 _ ?_;(repeat' first|constructor|intro h)<;>refine Lm ?_
   all_goals(first
    |(have C:0<s.wt.length:=by simpa using h
      first
      |omega
      |exact C
      |(obtain⟨i,r,A⟩:∃i r,s.wt=i::r:=by(cases e:s.wt with|nil=>(rw[e]at C;exact absurd C Dy)|cons i r=>exact⟨i,r,rfl⟩)
        have o:=k.2.2.1 i (by rw[A];simp);have bc:s.wt.length=r.length+1:=by rw[A];rfl
        obtain⟨g,rfl⟩:∃g,f=g+1:=⟨f-1,Dv⟩
        refine⟨((⟨s.out,s.kn,r⟩:BS),(0:Nat),i),⟨Je 3,⟨k.1,k.2.1,λx hx=>k.2.2.1 x (by rw[A];exact Jz _ hx),k.2.2.2⟩,o,hr.trans (b93 A),?_,Nat.succ_pos g,?_⟩,?_,?_⟩))
    |(have C:s.wt=[]:=by(have:s.wt.length=0:=E2);exact Kp this
      have F:NQ p=some s.out:=by rw[hr,c0q C]
      first
      |(unfold BD;rw[F];rfl)
      |(intro i o;unfold BD;rw[F];rfl)
      |(unfold JC;rw[F];rfl))
    |skip)
   .show 2*KH s+r.length<=g;omega
   .show g+1<=_;omega
   .refine X0 _ ?_;(repeat' first|constructor|intro h)<;>refine Lm ?_
    all_goals(first
     |exact A6
     |exact Bp
     |omega
     |(rw[A];rfl)
     |(intro j I;rw[A];exact d8v AC i r j)
     |skip)
   .rintro⟨s,e,i⟩ ⟨J,k,o,hr,v,-,y⟩;have:g+1-1=g:=rfl;replace J:e<=3:=J;replace k:lens p s:=k;replace o:0<=i/\i<FW p:=o;replace hr:NQ p=(MZ p.W p.H (EE p.l) i ([0,1,2].drop e) s).bind (IV p.W p.H (EE p.l) g):=hr;replace v:2*KH s+s.wt.length<=g:=v;replace y:g+1<=2*FW p+1:=y;have K:=@nv_le p.W p.H i e hs Dv;have hc4:(FW p:Int)=4*(p.W*p.H):=by
     have z:=Qa hs;unfold FW;omega
    have O:=k.1;have P:=k.2.1;refine X0 _ ?_;(repeat' first|constructor|intro h)<;>refine Lm ?_
    all_goals(try simp only[RT.lst_row]at*)
    all_goals(first
     |omega
     |(have e3:(e:Int)<3:=K7 ‹decide (_<(3:Int))=true›
       simp only[AE];omega)
     |exact⟨⟨Dv,o.1,Dv⟩,rfl,λ_=>rfl,k.2.2.2⟩
     |(have q:AX p.W p.H i e=0:=by simpa using(by assumption:(!decide (AX p.W p.H i e=0))=false)
       have Q:=K q;first
       |(constructor<;>omega)
       |omega
       |(show _<_;omega)
       |(refine⟨Dv,?_⟩;show (_+1)*8<=_;omega))
     |skip)
    all_goals(first
     |exact⟨⟨Dv,o.1,Dv⟩,J5,λ_=>J5,k.2.2.2⟩
     |(have e3:e=3:=by(have q:¬(e:Int)<3:=M6 ‹decide (_<(3:Int))=false›;omega)
       subst e3;refine⟨(s,g),⟨k,hr,v,by show g<=_;omega⟩,Nat.lt_succ_self g,?_⟩)
     |(have e3:e<3:=by(have q:(e:Int)<3:=K7 ‹decide (_<(3:Int))=true›;omega)
       have q:¬AX p.W p.H i e=0:=by simpa using ‹(!decide (AX p.W p.H i e=0))=true›
       have h1:LK p.W p.H (EE p.l) s i e=some s:=by unfold LK;rw[if_neg q]
       refine⟨(s,e+1,i),⟨e3,k,o,H7,v,Nat.succ_pos g,y⟩,Gg,?_⟩)
     |(exfalso;simp at h;done)
     |(have e3:e<3:=by(have q:(e:Int)<3:=K7 ‹decide (_<(3:Int))=true›;omega)
       have q:AX p.W p.H i e=0:=Hy;have E:s.kn.getD (AG p.W p.H i e).toNat false=true:=by simpa[GM]using ‹(!s.kn.getD (AG p.W p.H i e).toNat GM.d)=false›
       first
       |(have R:(!decide (s.out.getD (AG p.W p.H i e).toNat AH.d=IR p.W p.H (EE p.l) (s.out.getD i.toNat AH.d) i e))=true:=by rw[<-mvEq];exact h
         have L:NQ p=none:=by rw[hr,b8m e3,b25 q E,J3 (by simpa using R)];rfl
         first
         |(unfold BD;rw[L];rfl)
         |(unfold JC;rw[L];rfl))
       |(have S:(!decide (s.out.getD (AG p.W p.H i e).toNat AH.d=IR p.W p.H (EE p.l) (s.out.getD i.toNat AH.d) i e))=false:=by rw[<-mvEq];exact h
         have h1:LK p.W p.H (EE p.l) s i e=some s:=by rw[b25 q E,Iz (by simpa using S)]
         refine⟨(s,e+1,i),⟨e3,k,o,H7,v,Nat.succ_pos g,y⟩,Gg,?_⟩))
     |(have e3:e<3:=by(have q:(e:Int)<3:=K7 ‹decide (_<(3:Int))=true›;omega)
       have q:AX p.W p.H i e=0:=Hy;have Q:=K q;have E:s.kn.getD (AG p.W p.H i e).toNat false=false:=by simpa[GM]using ‹(!s.kn.getD (AG p.W p.H i e).toNat GM.d)=true›
       have h1:=c2r (has:=EE p.l) q E Dv;have hc:=b2t (n:=(AG p.W p.H i e).toNat) Dv E;have T:0<=(s.out.getD i.toNat AH.d).t/\(s.out.getD i.toNat AH.d).t<=255:=k.2.2.2 _ (by simp[show i.toNat<s.out.length from Dv]);refine⟨(⟨s.out.set (AG p.W p.H i e).toNat (IR p.W p.H (EE p.l) (s.out.getD i.toNat AH.d) i e),s.kn.set (AG p.W p.H i e).toNat true,s.wt++[AG p.W p.H i e]⟩,e+1,i),⟨e3,⟨by simp[O],by simp[P],λx hx=> ?_,b3r k.2.2.2 (c2f T)⟩,o,H7,?_,Nat.succ_pos g,y⟩,Gg,?_⟩)
     |skip)
    all_goals(first
     |(rcases Jy.1 (by assumption:_∈_++_)with hx|hx
       .exact k.2.2.1 _ hx
       .rw[Js.1 hx];omega)
     |(show 2*(s.kn.set _ true).count false+(s.wt++[_]).length<=g
       unfold KH at v;simp only[Ip];omega)
     |skip)
    all_goals refine X0 _ ?_;(repeat' first|constructor|intro h)<;>refine Lm ?_
    all_goals(first
     |exact A6
     |exact Bp
     |omega
     |(simp;done)
     |(intro j I
       by_cases w:j=(AG p.W p.H i e).toNat
       .rw[Jf w,b17 AH Dv w];rfl
       .rw[Ji w,b3m AH w];rfl)
     |(intro j I
       by_cases w:j=(AG p.W p.H i e).toNat
       .rw[Jf w,b17 GM Dv w];rfl
       .rw[Ji w,b3m GM w];rfl)
     |(intro j I
       by_cases q:j<s.wt.length
       .rw[Iz q,b0a AC q]
       .rw[J3 q,show j=s.wt.length from Dv,Ks,b09];rfl)
     |skip)
def c7e:HK:=λa own=>match a,own with
 | [.osl 0],[.row T 1 n f _]=>if T=3 then some ⟨n<=100000,.osl 0,[.row 3 1 n f (some n)],[0]⟩else none
 |_,_=>none
def f88:FamH:=⟨Nat×(Nat->List SV),λ_=>[.osl 0],λ(n,f)=>[.row 3 1 n f none],λ(n,_)=>n<=100000,λ_=>.osl 0,λ(n,f)=>[.row 3 1 n f (some n)],[0]⟩
theorem f89:HS 130 c7e:=by
 refine HG {} ⟨Dx,Dx,Dx⟩ f88 (λ_ _=>none) c7e ?_ ?_ ?_ Tryz.func130 Dw Dw Dw ?_
 .intro args own r h a;unfold c7e at h;split at h
  .rename_i T n f c;split at h
   .rename_i b;subst b;cases h;exact⟨(n,f),⟨E4,J5⟩,rfl,⟨⟨Eh,rfl,J5,RZ λ_ _=>rfl⟩,J5⟩,a,rfl,rfl,rfl⟩
   .cases h
  .cases h
 .exact C0
 .exact C5
 .rintro⟨n,f⟩ μ a;replace a:n<=100000:=a;refine X0 _ ?_;(repeat' first|constructor|intro h)<;>refine Lm ?_
  all_goals(first
   |exact As
   |(show some ((n:Int)-0).toNat=some n;congr 1)
   |exact B8
   |(intro i hi;congr 1;simp;done)
   |skip)
def f29:HK:=λa own=>match a,own with
 | [.sl 1 n f _],[]=>some ⟨n<=100000,.osl 0,[.row 3 1 n f none],[]⟩
 |_,_=>none
def FVClI:FamH:=⟨Nat×(Nat->List SV),λ(n,f)=>[.sl 1 n f none],λ_=>[],λ(n,_)=>n<=100000,λ_=>.osl 0,λ(n,f)=>[.row 3 1 n f none],[]⟩
theorem pVClI:HS 131 f29:=by
 refine HG {G:={gx:=c54 2 3 1}} ⟨Dx,Dx,Dx⟩ FVClI (λ_ _=>none) f29 ?_ ?_ ?_ Tryz.func131 Dw Dw Dw ?_
 .intro args own r h a;unfold f29 at h;split at h
  .rename_i n f c;cases h;exact⟨(n,f),⟨Hl (d3n _),J5⟩,rfl,J5,a,rfl,rfl,rfl⟩
  .cases h
 .exact C0
 .exact Cd
 .rintro⟨n,f⟩ μ a;replace a:n<=100000:=a;refine X0 _ ?_;(repeat' first|constructor|intro h)<;>refine Lm ?_
  all_goals(first
   |exact Ar
   |exact Bi
   |(intro i hi;simp;done)
   |skip)
def b6g:HK:=λd own=>match d,own with
 | [.agg [.int .i64 a,.int .i64 b,.int .u8 c,.sl 1 n f _]],[]=>some ⟨n<=100000,.agg [.int .i64 a,.int .i64 b,.int .u8 c,.osl 0],[.row 3 1 n f (some n)],[]⟩
 |_,_=>none
def f13:FamH:=⟨(Int×Int×Int)×Nat×(Nat->List SV),λ((a,b,c),n,f)=>[.agg [.int .i64 a,.int .i64 b,.int .u8 c,.sl 1 n f none]],λ_=>[],λ(_,n,_)=>n<=100000,λ((a,b,c),_,_)=>.agg [.int .i64 a,.int .i64 b,.int .u8 c,.osl 0],λ(_,n,f)=>[.row 3 1 n f (some n)],[]⟩
theorem c8m:HS 87 b6g:=by
 refine HG {h:=[(131,f29),(130,c7e)],gr:=λid=>bif Nat.beq id 1 then [.orders]else [],G:={gx:=λ_=>[.sel [2,1]]}} ⟨Dx,Dx,by simpa using⟨pVClI,f89⟩⟩ f13 (λ_ _=>none) b6g ?_ ?_ ?_ Tryz.func87 Dw Dw Dw ?_
 .intro args own r h d;unfold b6g at h;split at h
  .rename_i a b c n f cp;cases h;exact⟨((a,b,c),n,f),⟨by simp[SV.le2,SV.le1,BH,SV.le0,GL,FU],J5⟩,rfl,J5,d,rfl,rfl,rfl⟩
  .cases h
 .exact C0
 .exact Cd
 .rintro⟨⟨a,b,c⟩,n,f⟩ μ d;replace d:n<=100000:=d;refine AB _ ?_;(repeat' first|constructor|refine Iu λe=> ?_|intro h)<;>refine Lm ?_
  all_goals(first
   |exact Ar
   |exact e
   |skip)
section
variable{α:Type} (d:α) (lt:α->α->Bool)
def EZ(l:List α)(i j:Nat):List α:=(l.set i (l.getD j d)).set j (l.getD i d)
def GE(a:Nat):Nat->List α->List α
 |0,l=>l
 |j+1,l=>if a<j+1/\lt (l.getD (j+1) d) (l.getD j d)=true then GE a j (EZ d l (j+1) j)else l
def IH(a:Nat):Nat->Nat->List α->List α
 |0,_,l=>l
 |k+1,i,l=>IH a k (i+1) (GE d lt a i l)
def GF(a b:Nat)(l:List α):List α:=IH d lt a (b-(a+1)) (a+1) l
def Ko(a b:Nat):Nat->Nat->List α->List α
 |0,_,l=>l
 |k+1,i,l=>Ko a b k (i+1) (EZ d l (a+i) (b+i))
def SQ(m:Nat):Nat->Nat->Nat->List α->List α
 |0,_,_,l=>l
 |f+1,i,j,l=>if i=j then Ko d (m-i) m i 0 l else if j<i then SQ m f (i-j) j (Ko d (m-i) m j 0 l)else SQ m f i (j-i) (Ko d (m-i) (m+j-i) i 0 l)
def IG(a m b:Nat)(l:List α):List α:=SQ d m (b-a) (m-a) (b-m) l
def HJ(p:Nat->Bool):Nat->Nat->Nat->Nat
 |0,i,_=>i
 |f+1,i,j=>if i<j then(if p ((i+j)/2)=true then HJ p f ((i+j)/2+1) j else HJ p f i ((i+j)/2))else i
def Px:Nat->Nat->List α->List α
 |0,_,l=>l
 |n+1,k,l=>Px n (k+1) (EZ d l k (k+1))
def QV:Nat->Nat->List α->List α
 |0,_,l=>l
 |n+1,k,l=>QV n (k-1) (EZ d l k (k-1))
def HN(a m b:Nat)(l:List α):Nat:=
 if(a+b)/2<m then HJ (λc=> !lt (l.getD ((a+b)/2+m-1-c) d) (l.getD c d)) ((a+b)/2-((a+b)/2+m-b)) ((a+b)/2+m-b) ((a+b)/2)
 else HJ (λc=> !lt (l.getD ((a+b)/2+m-1-c) d) (l.getD c d)) (m-a) a m
def FT(a m b s:Nat)(l:List α):List α:=if s<m/\m<(a+b)/2+m-s then IG d s m ((a+b)/2+m-s) l else l
def Pq(a m b:Nat)(l:List α):Nat:=HJ (λh=>lt (l.getD h d) (l.getD a d)) (b-m) m b
def Rd(a m:Nat)(l:List α):Nat:=HJ (λh=> !lt (l.getD m d) (l.getD h d)) (m-a) a m
def EM:Nat->Nat->Nat->Nat->List α->List α
 |0,_,_,_,l=>l
 |f+1,a,m,b,l=>
  if m-a=1 then Px d (Pq d lt a m b l-1-a) a l
  else if b-m=1 then QV d (m-Rd d lt a m l) m l
  else
   if(a+b)/2<(a+b)/2+m-HN d lt a m b l/\(a+b)/2+m-HN d lt a m b l<b then
    EM f ((a+b)/2) ((a+b)/2+m-HN d lt a m b l) b (if a<HN d lt a m b l/\HN d lt a m b l<(a+b)/2 then EM f a (HN d lt a m b l) ((a+b)/2) (FT d a m b (HN d lt a m b l) l)else FT d a m b (HN d lt a m b l) l)
   else if a<HN d lt a m b l/\HN d lt a m b l<(a+b)/2 then EM f a (HN d lt a m b l) ((a+b)/2) (FT d a m b (HN d lt a m b l) l)else FT d a m b (HN d lt a m b l) l
def Nl(n:Nat):Nat->Nat->List α->List α
 |0,a,l=>GF d lt a n l
 |f+1,a,l=>if a+20<=n then Nl n f (a+20) (GF d lt a (a+20) l)else GF d lt a n l
def LB(n b:Nat):Nat->Nat->List α->List α
 |0,a,l=>if a+b<n then EM d lt n a (a+b) n l else l
 |f+1,a,l=>if a+2*b<=n then LB n b f (a+2*b) (EM d lt n a (a+b) (a+2*b) l)else if a+b<n then EM d lt n a (a+b) n l else l
def NV(n:Nat):Nat->Nat->List α->List α
 |0,_,l=>l
 |f+1,a,l=>if a<n then NV n f (2*a) (LB d lt n a n 0 l)else l
def Ob(l:List α):List α:=NV d lt l.length l.length 20 (Nl d lt l.length l.length 0 l)
structure Sub (l' l:List α):Prop where
 len:l'.length=l.length
 mem:∀x∈l',x∈l
 perm:l'.Perm l
theorem Sub.refl(l:List α):Sub l l:=⟨rfl,λ_ h=>h,.refl l⟩
theorem Sub.trans{a b c:List α}(h:Sub a b)(k:Sub b c):Sub a c:=⟨h.1.trans k.1,λx hx=>k.2 x (h.2 x hx),h.3.trans k.3⟩
variable{d lt}
theorem d9b{l:List α}{i j:Nat}(hi:i<l.length)(hj:j<l.length):(EZ d l i j).Perm l:=by
 have h:=Array.swap_perm (xs:=l.toArray) (i:=i) (j:=j) Er Em;have e:(l.toArray.swap i j Er Em).toList=EZ d l i j:=by simp[Array.swap,EZ,hi,hj]
 have:=Array.perm_iff_toList_perm.1 h;rw[e]at this;simpa using this
theorem RI{l:List α}{i j:Nat}(hi:i<l.length)(a:j<l.length):Sub (EZ d l i j) l:=by have h:=d9b (d:=d) hi a;exact⟨h.length_eq,λx hx=>h.mem_iff.1 hx,h⟩
theorem b6j{a:Nat}:∀(j:Nat) (l:List α),j<l.length->Sub (GE d lt a j l) l
 |0,l,_=>Sub.refl l
 |j+1,l,h=>by
  unfold GE;split
  .have hs:=RI (d:=d) (l:=l) (i:=j+1) (j:=j) h Dv;exact(b6j j _ Ew).trans hs
  .exact Sub.refl l
theorem b8b{a:Nat}:∀(k i:Nat) (l:List α),i+k<=l.length->Sub (IH d lt a k i l) l
 |0,_,l,_=>Sub.refl l
 |k+1,i,l,h=>by unfold IH;have hs:=b6j (d:=d) (lt:=lt) (a:=a) i l Dv;exact(b8b k (i+1) _ Ew).trans hs
theorem We{a b:Nat}{l:List α}(h:b<=l.length):Sub (GF d lt a b l) l:=by
 unfold GF;by_cases e:a+1<=b
 .exact b8b _ _ _ Dv
 .rw[show b-(a+1)=0 from Dv];exact Sub.refl l
theorem Vl{a b:Nat}:∀(k i:Nat) (l:List α),a+i+k<=l.length->b+i+k<=l.length->Sub (Ko d a b k i l) l
 |0,_,l,_,_=>Sub.refl l
 |k+1,i,l,h1,h2=>by unfold Ko;have hs:=RI (d:=d) (l:=l) (i:=a+i) (j:=b+i) Dv Dv;exact(Vl k (i+1) _ Ew Ew).trans hs
theorem b8q{m:Nat}:∀(f i j:Nat) (l:List α),i<=m->m+j<=l.length->Sub (SQ d m f i j l) l
 |0,i,j,l,_,_=>Sub.refl l
 |f+1,i,j,l,h1,h3=>by
  unfold SQ;split
  .exact Vl _ _ _ Dv Dv
  .split
   .have hs:=Vl (d:=d) (a:=m-i) (b:=m) j 0 l Dv Dv;exact(b8q f (i-j) j _ Dv Ew).trans hs
   .have hs:=Vl (d:=d) (a:=m-i) (b:=m+j-i) i 0 l Dv Dv;exact(b8q f i (j-i) _ Dv Ew).trans hs
theorem Rm{a m b:Nat}{l:List α}(h:m<=b)(hb:b<=l.length):Sub (IG d a m b l) l:=b8q _ _ _ _ Dv Dv
theorem UL{p:Nat->Bool}:∀(f i j:Nat),i<=j->i<=HJ p f i j/\HJ p f i j<=j
 |0,i,j,h=>⟨J9 _,h⟩
 |f+1,i,j,h=>by
  unfold HJ;split
  .split
   .have:=UL (p:=p) f ((i+j)/2+1) j Dv;omega
   .have:=UL (p:=p) f i ((i+j)/2) Dv;omega
  .omega
theorem d3f:∀(n k:Nat) (l:List α),k+n<l.length\/n=0->Sub (Px d n k l) l
 |0,_,l,_=>Sub.refl l
 |n+1,k,l,h=>by unfold Px;have hs:=RI (d:=d) (l:=l) (i:=k) (j:=k+1) Dv Dv;exact(d3f n (k+1) _ Ew).trans hs
theorem d4c:∀(n k:Nat) (l:List α),k<l.length->Sub (QV d n k l) l
 |0,_,l,_=>Sub.refl l
 |n+1,k,l,h=>by unfold QV;have hs:=RI (d:=d) (l:=l) (i:=k) (j:=k-1) Dv Dv;exact(d4c n (k-1) _ Ew).trans hs
theorem d70{a m b:Nat}{l:List α}(h1:a<m)(h2:m<b):a<=HN d lt a m b l/\HN d lt a m b l<=m/\(a+b)/2+m-HN d lt a m b l<=b/\m<=(a+b)/2+m-HN d lt a m b l:=by
 unfold HN;split
 .have:=UL (p:=λc=> !lt (l.getD ((a+b)/2+m-1-c) d) (l.getD c d)) ((a+b)/2-((a+b)/2+m-b)) ((a+b)/2+m-b) ((a+b)/2) Dv;omega
 .have:=UL (p:=λc=> !lt (l.getD ((a+b)/2+m-1-c) d) (l.getD c d)) (m-a) a m Dv;omega
theorem f14{a m b s:Nat}{l:List α}(_:s<=m)(c:(a+b)/2+m-s<=l.length):Sub (FT d a m b s l) l:=by
 unfold FT;split
 .exact Rm Dv c
 .exact Sub.refl l
theorem MC:∀(f a m b:Nat) (l:List α),a<m->m<b->b<=l.length->Sub (EM d lt f a m b l) l
 |0,_,_,_,l,_,_,_=>Sub.refl l
 |f+1,a,m,b,l,k,n,i=>by
  unfold EM;have hS:=d70 (d:=d) (lt:=lt) (l:=l) k n;generalize HN d lt a m b l=s at hS;have c:=f14 (d:=d) (a:=a) (b:=b) (l:=l) hS.2.1 Dv;have j:a<s/\s<(a+b)/2->Sub (EM d lt f a s ((a+b)/2) (FT d a m b s l)) l:=λh=>(MC f a s _ _ h.1 h.2 (by rw[c.1];omega)).trans c;split
  .have:=UL (p:=λh=>lt (l.getD h d) (l.getD a d)) (b-m) m b Dv;unfold Pq;exact d3f _ _ _ Dv
  .split
   .exact d4c _ _ _ Dv
   .split
    .rename_i e;split
     .rename_i g;have:=j g;exact(MC f _ _ b _ e.1 e.2 (by rw[this.1];exact i)).trans this
     .exact(MC f _ _ b _ e.1 e.2 (by rw[c.1];exact i)).trans c
    .split
     .rename_i g;exact j g
     .exact c
theorem c8w{n:Nat}:∀(f a:Nat) (l:List α),n<=l.length->Sub (Nl d lt n f a l) l
 |0,a,l,h=>We h
 |f+1,a,l,h=>by
  unfold Nl;split
  .have hs:=We (d:=d) (lt:=lt) (a:=a) (b:=a+20) (l:=l) Dv;exact(c8w f (a+20) _ (by rw[hs.1];exact h)).trans hs
  .exact We h
theorem c98{n b:Nat}(c:0<b):∀(f a:Nat) (l:List α),n<=l.length->Sub (LB d lt n b f a l) l
 |0,a,l,h=>by
  unfold LB;split
  .exact MC _ _ _ _ _ Dv Dv h
  .exact Sub.refl l
 |f+1,a,l,h=>by
  unfold LB;split
  .have hs:=MC (d:=d) (lt:=lt) n a (a+b) (a+2*b) l Dv Dv Dv;exact(c98 c f _ _ (by rw[hs.1];exact h)).trans hs
  .split
   .exact MC _ _ _ _ _ Dv Dv h
   .exact Sub.refl l
theorem c80{n:Nat}:∀(f a:Nat) (l:List α),0<a->n<=l.length->Sub (NV d lt n f a l) l
 |0,_,l,_,_=>Sub.refl l
 |f+1,a,l,b,h=>by
  unfold NV;split
  .have hs:=c98 (d:=d) (lt:=lt) b n 0 l h;exact(c80 f (2*a) _ Dv (by rw[hs.1];exact h)).trans hs
  .exact Sub.refl l
theorem c1y(l:List α):Sub (Ob d lt l) l:=by unfold Ob;have hs:=c8w (d:=d) (lt:=lt) l.length 0 l (J9 _);exact(c80 _ _ _ Dv (by rw[hs.1];exact J9 _)).trans hs
end
theorem RT.row_isL{α:Type}(R:RT α){n:Nat}{f:Nat->List SV}(a:R.isL n f):∀i,i<n->FU (f i) (R.row (R.lst n f) i):=by intro i hi;have e:R.row (R.lst n f) i=R.sv (R.of (f i)):=Hx;rw[e];exact a i hi
theorem b6x{α:Type}{d:α}{l:List α}{i j k:Nat}(hi:i<l.length)(hj:j<l.length):(EZ d l i j).getD k d=if k=j then l.getD i d else if k=i then l.getD j d else l.getD k d:=by
 unfold EZ;simp only[Ix];by_cases a:k=j
 .subst a;rw[Iz rfl,K4 Em];simp
 .rw[J3 a,Jh (Ne.symm a)];by_cases b:k=i
  .subst b;rw[Iz rfl,K4 hi];simp
  .rw[J3 b,Jh (Ne.symm b)]
theorem b3f{α:Type}{d:α}{l:List α}{i j:Nat}:(EZ d l i j).length=l.length:=by simp[EZ]
def KQ(l:List Int):Nat->List Int
 |0=>l
 |i+1=>EZ 0 (KQ l i) i (l.length-1-i)
theorem YD(l:List Int):∀i,(KQ l i).length=l.length
 |0=>rfl
 |i+1=>by simp[KQ,b3f,YD l i]
theorem c9f(l:List Int):∀i,2*i<=l.length->∀k,k<l.length->(KQ l i).getD k 0=l.getD (if k<i\/l.length<=k+i then l.length-1-k else k) 0
 |0,_,k,b=>by rw[J3 Dv];rfl
 |i+1,h,k,b=>by
  have a:=c9f l i Dv;have hl:=YD l i;simp only[KQ];rw[b6x Dv Dv];by_cases c:k=l.length-1-i
  .rw[Iz c,a i Dv,J3 Dv,Iz Dv];congr 1;omega
  .rw[J3 c];by_cases d:k=i
   .rw[Iz d,a _ Dv,J3 Dv,Iz Dv];congr 1;omega
   .rw[J3 d,a k b];by_cases e:k<i\/l.length<=k+i
    .rw[Iz e,Iz Dv]
    .rw[J3 e,J3 Dv]
theorem f30(l:List Int){i:Nat}(b:2*i<=l.length)(h2:l.length<=2*i+1):KQ l i=l.reverse:=by
 apply Ms
 .simp[YD]
 .intro k c h4;have a:k<l.length:=Fe;have:=c9f l i b k a;simp only[In,Iy c]at this;rw[this,List.getElem_reverse];by_cases e:k<i\/l.length<=k+i
  .rw[Iz e,Iy Dv,Kn]
  .rw[J3 e,Iy a,Kn];congr 1;omega
def f32:HK:=λa own=>match a,own with
 | [.osl 0],[.row T 1 n f _]=>if T=3 then some ⟨AC.isL n f/\n<=100000,.tup [],[.row 3 1 (AC.lst n f).length (AC.row (AC.lst n f).reverse) none],[]⟩else none
 |_,_=>none
def FRevI:FamH:=⟨List Int,λ_=>[.osl 0],λl=>[.row 3 1 l.length (AC.row l) none],λl=>l.length<=100000,λ_=>.tup [],λl=>[.row 3 1 l.length (AC.row l.reverse) none],[]⟩
def IRevI:List Int->Nat->Option Inv
 |l,1=>some {β:=Nat,ok:=λi=>2*i<=l.length,st:=λi=>⟨[⟨3,none,.int .i64 ((l.length:Int)-1-i)⟩,⟨2,none,.int .i64 i⟩,⟨0,none,.osl 0⟩],[.row 3 1 l.length (AC.row (KQ l i)) none]⟩,μ:=λi=>l.length-i}
 |_,_=>none
theorem f71{l:List Int}{i q:Nat}{x y:Int}(h:2*i+2<=l.length)(hx:x=(KQ l i).getD i 0)(c:y=(KQ l i).getD (l.length-1-i) 0):DC (decide (q=l.length-1-i)) [.int .i64 x] (DC (decide (q=i)) [.int .i64 y] (AC.row (KQ l i) q))=AC.row (KQ l (i+1)) q:=by
 have hl:=YD l i;have d:AC.row (KQ l i) q=[.int .i64 ((KQ l i).getD q 0)]:=rfl;have e:AC.row (KQ l (i+1)) q=[.int .i64 ((KQ l (i+1)).getD q 0)]:=rfl;rw[d,e];simp only[DC,RA,Ke,KQ];rw[b6x Dv Dv,hx,c];by_cases a:q=l.length-1-i
 .simp[a]
 .by_cases b:q=i
  .subst b;simp[a]
  .simp[a,b]
theorem ov_row(L:List Int)(i:Nat)(x:Int):over (AC.row L i) 0 [SV.int .i64 x]=[SV.int .i64 x]:=rfl
theorem ov_mix(b:Bool)(L:List Int)(i:Nat)(x y:Int):over (DC b [SV.int .i64 x] (AC.row L i)) 0 [SV.int .i64 y]=[SV.int .i64 y]:=by cases b<;>rfl
theorem pRevI:HS 88 f32:=by
 refine HG {} ⟨Dx,Dx,Dx⟩ FRevI IRevI f32 ?_ ?_ ?_ Tryz.func88 Dw Dw Dw ?_
 .intro args own r h a;unfold f32 at h;split at h
  .rename_i T n f c;split at h
   .rename_i e;subst e;cases h;exact⟨AC.lst n f,⟨E4,J5⟩,rfl,⟨⟨Eh,(RT.lst_length AC n f).symm,J5,RT.row_isL AC a.1⟩,J5⟩,by simp only[FRevI,RT.lst_length];exact a.2,rfl,rfl,rfl⟩
   .cases h
  .cases h
 .exact C0
 .exact C5
 .intro(l:List Int) μ a;replace a:l.length<=100000:=a;refine X0 _ ?_;(repeat' first|constructor|intro h)<;>refine Lm ?_
  all_goals(try(simp only[AE];omega))
  refine⟨(0:Nat),Je _,?_,?_⟩
  .exact X0d
  .intro i d;replace d:2*i<=l.length:=d;have g:((l.length:Int)-1-i).toNat=l.length-1-i:=Dv;refine X0 _ ?_;(repeat' first|constructor|intro h)<;>refine Lm ?_
   all_goals(try simp only[Ia,g]at*)
   all_goals(try first
    |exact Ap
    |exact Ae
    |(show i<l.length;omega)
    |(show l.length-1-i<l.length;omega)
    |(intro q hq;rw[f30 l d Dv]))
   refine⟨i+1,Dv,Dv,?_⟩;all_goals refine X0 _ ?_;(repeat' first|constructor|intro h)<;>refine Lm ?_
   all_goals(first
    |omega
    |rfl
    |(intro q _
      have j:2*i+2<=l.length:=Dv;rw[ov_row,ov_mix];exact f71 (l:=l) (i:=i) (q:=q) (x:=(KQ l i).getD i 0) (y:=(KQ l i).getD (l.length-1-i) 0) j rfl rfl))
def Pb(s:Stk):Stk:=⟨s.c,s.l.reverse⟩
def d1q:List SV:=[.int .i64 0,.int .i64 0,.int .u8 0,.con (.slice none 0 0)]
def Rt(L:List Stk)(i q:Nat):List SV:=[.int .i64 (if q<i then(L.getD q AA.d).c.x else 0),.int .i64 (if q<i then(L.getD q AA.d).c.y else 0),.int .u8 (if q<i then(L.getD q AA.d).c.q else 0),if q<i then .sl 1 (L.getD q AA.d).l.reverse.length (AC.row (L.getD q AA.d).l.reverse) none else .con (.slice none 0 0)]
theorem f2s{L:List Stk}{i q:Nat}(h:q<i):Rt L i q=AA.sv (Pb (L.getD q AA.d)):=by simp only[Rt,Iz h];rfl
theorem d8x{L:List Stk}{i q:Nat}(h:¬q<i):Rt L i q=d1q:=by simp only[Rt,J3 h];rfl
theorem g1y{L:List Stk}{i q:Nat}:DC (decide (q=i)) (AA.sv (Pb (L.getD i AA.d))) (Rt L i q)=Rt L (i+1) q:=by
 by_cases e:q=i
 .subst e;rw[f2s (Nat.lt_succ_self _),d8x (M7 _),Jf rfl];rfl
 .rw[Ji e];by_cases h:q<i
  .rw[f2s h,f2s Dv];rfl
  .rw[d8x h,d8x Dv];rfl
theorem rv_all{L:List Stk}{q:Nat}(h:q<L.length):Rt L L.length q=AA.row (L.map Pb) q:=by rw[f2s h];simp[RT.row,h]
def c6f:AM
 | [x]=>(KJ x).map λq=>(q.1,.sl 4 (q.2.map Pb).length (AA.row (q.2.map Pb)) (some (q.2.map Pb).length))
 |_=>none
def FStRev:Fam:=⟨List Stk,λL=>[DJ L],λL=>FN L,λL=>.sl 4 (L.map Pb).length (AA.row (L.map Pb)) (some (L.map Pb).length)⟩
def IStRev:List Stk->Nat->Option Inv
 |L,3=>some {β:=Nat,ok:=λi=>i<=L.length,st:=λi=>⟨[⟨11,none,.int .i64 i⟩,⟨10,none,.int .i64 L.length⟩,⟨9,none,DJ L⟩,⟨3,none,.osl 0⟩],[.row 41 4 L.length (Rt L i) (some L.length)]⟩,μ:=λi=>L.length-i}
 |_,_=>none
theorem pStRev:PS 56 c6f:=by
 refine Np {h:=[(87,b6g),(88,f32)],gr:=λid=>bif Nat.beq id 6 then [.fz 2,.flat 0]else []} ⟨Dx,Dx,by simpa using⟨c8m,pRevI⟩⟩ FStRev IStRev c6f ?_ ?_ Tryz.func56 Dw Dw Dw ?_
 .intro args pre s h a;unfold c6f at h;split at h
  .rename_i x;simp only[Ic]at h;obtain⟨⟨q,L⟩,hx,rfl,rfl⟩:=h;obtain⟨g,j⟩:=Oc hx a;exact⟨L,⟨g,J5⟩,j,rfl⟩
  .cases h
 .exact C0
 .intro(L:List Stk) a;replace a:FN L:=a;have hl:=a.1;refine X0 _ ?_;(repeat' first|constructor|intro h)<;>refine Lm ?_
  .refine⟨Dv,Dv,?_,Dv⟩;exact Qz Dw Dv Dv
  refine⟨(0:Nat),Je _,?_,?_⟩
  .refine X0a _ ?_;(repeat' first|constructor|intro h)<;>refine Lm ?_
   all_goals first|rfl|exact Ba|(intro q _;exact .inl (by rw[d8x (Jq _)];rfl))|exact A4|skip
  .intro i c;replace c:i<=L.length:=c;have hx:i<L.length->(L.getD i AA.d).l.length<=100000:=λh=>a.2 _ H8;refine X0a _ ?_;(repeat' first|constructor|intro h)<;>refine Lm ?_
   all_goals(try simp only[Ia,RT.lst_row]at*)
   all_goals(try first
    |omega
    |exact hx Dv
    |(show i<L.length;omega)
    |(show i=i;rfl)
    |exact⟨AC.isL_row _,hx Dv⟩
    |exact A3
    |(simp;done)
    |(intro q f;left
      have e:i=L.length:=Dv;rw[e];exact rv_all f))
   refine⟨i+1,Dv,Dv,?_⟩;all_goals refine X0a _ ?_;(repeat' first|constructor|intro h)<;>refine Lm ?_
   all_goals(try simp only[Jk,RT.lst_row])
   all_goals first
    |omega
    |exact B5
    |(intro q f;left
      have e:=@g1y L i q;simp only[AA,Pb,List.length_reverse]at e;exact e)
    |skip
def c0v:HK:=λa own=>match a,own with
 | [.con (.slice none 0 0),.int .i64 n],[]=>some ⟨0<n/\n<=200000,.osl 0,[.row 41 4 0 (λ_=>[]) none],[]⟩
 |_,_=>none
def g04:FamH:=⟨Int,λn=>[.sl 4 0 (λ_=>[]) (some 0),.int .i64 n],λ_=>[],λn=>0<n/\n<=200000,λ_=>.osl 0,λ_=>[.row 41 4 0 (λ_=>[]) none],[]⟩
theorem f8q:HS 132 c0v:=by
 refine HG {G:={gx:=c54 4 41 4}} ⟨Dx,Dx,Dx⟩ g04 (λ_ _=>none) c0v ?_ ?_ ?_ Tryz.func132 Dw Dw Dw ?_
 .intro args own r h a;unfold c0v at h;split at h
  .rename_i n;cases h;exact⟨n,⟨by simp[SV.le2,SV.le1,SV.le0,GL],E4,J5⟩,rfl,J5,a,rfl,rfl,rfl⟩
  .cases h
 .exact Bz
 .exact Cd
 .intro(n:Int) μ a;replace a:0<n/\n<=200000:=a;obtain⟨h1,h2⟩:=a;refine X0 _ ?_;(repeat' first|constructor|intro h)<;>refine Lm ?_
  all_goals(try simp only[Ig]at*)
  all_goals first
   |exact By
   |exact A7
   |omega
   |exact⟨rfl,Dv,Dv,Dv⟩
   |(refine⟨⟨Dv,Dv⟩,Dv,Dv,?_⟩;exact MU Dw Dv)
   |(intro i hi;omega)
   |skip
def SC(x:SV):Option (Prop×List Stk):=(AA.as x).map λq=>(AA.is q.1 q.2/\q.1<=100000/\∀s∈AA.lst q.1 q.2,s.l.length<=100000,AA.lst q.1 q.2)
theorem b4u{x:SV}{q:Prop}{L:List Stk}(h:SC x=some (q,L))(hq:q):x.lf (DJ L)/\FN L:=by
 unfold SC at h;simp only[Ic]at h;obtain⟨⟨n,f⟩,hx,rfl,rfl⟩:=h;refine⟨?_,H5,hq.2.2⟩;unfold RT.as at hx;split at hx
 .split at hx
  .rename_i a;cases hx;refine⟨(RT.lst_length AA _ _).symm,by rw[Iz (by exact a)];trivial,J5,AA.row_lst hq.1⟩
  .cases hx
 .cases hx;exact⟨by simp[RT.lst],J5⟩
 .cases hx
theorem c3j{α:Type}(R:RT α)(A B:List α)(q:Nat):(if q<A.length then R.row A q else R.row B (q-A.length))=R.row (A++B) q:=by
 unfold RT.row;by_cases h:q<A.length
 .rw[Iz h];simp[Jc h]
 .rw[J3 h];simp[Jm (Nat.le_of_not_lt h)]
def b8t:AM
 | [.sl 1 2 g _]=>match g 0,g 1 with
   | [x],[y]=>match SC x,SC y with
     |some (p,A),some (q,B)=>some ((p/\q)/\0<A.length+B.length,DJ (A++B))
     |_,_=>none
   |_,_=>none
 |_=>none
def f0v(A B:List Stk)(j:Nat):List SV:=bif Nat.beq j 0 then [DJ A]else [DJ B]
def g1t:Fam:=⟨List Stk×List Stk,λ(A,B)=>[.sl 1 2 (f0v A B) none],λ(A,B)=>(FN A/\FN B)/\0<A.length+B.length,λ(A,B)=>DJ (A++B)⟩
def d5b(A B:List Stk)(i:Nat):Int:=if i=0 then 0 else if i=1 then A.length else A.length+B.length
def d4w(A B:List Stk)(i:Nat):List Stk:=if i=0 then []else if i=1 then A else A++B
def g1f:List Stk×List Stk->Nat->Option Inv
 |(A,B),3=>some {β:=Nat,ok:=λi=>i<=2,st:=λi=>⟨[⟨11,none,.int .i64 i⟩,⟨10,none,.int .i64 2⟩,⟨9,none,.sl 1 2 (f0v A B) none⟩,⟨3,none,.int .i64 (d5b A B i)⟩,⟨0,none,.sl 1 2 (f0v A B) none⟩],[]⟩,μ:=λi=>2-i}
 |(A,B),11=>some {β:=Nat,ok:=λi=>i<=2,st:=λi=>⟨[⟨27,none,.int .i64 i⟩,⟨26,none,.int .i64 2⟩,⟨25,none,.sl 1 2 (f0v A B) none⟩,⟨6,none,.osl 0⟩],[.row 41 4 (d4w A B i).length (AA.row (d4w A B i)) none]⟩,μ:=λi=>2-i}
 |_,_=>none
theorem g0p:PS 97 b8t:=by
 refine Np {h:=[(132,c0v)]} ⟨Dx,Dx,by simpa using f8q⟩ g1t g1f b8t ?_ ?_ Tryz.func97 Dw Dw Dw ?_
 .intro args pre s h m;unfold b8t at h;split at h
  .rename_i g c;split at h
   .rename_i x y k n;split at h
    .rename_i p A q B hx o;cases h;obtain⟨⟨r,t⟩,u⟩:=m;obtain⟨v,w⟩:=b4u hx r;obtain⟨z,C⟩:=b4u o t;refine⟨(A,B),⟨Hl ⟨rfl,Et,J5,λi b=> ?_⟩,J5⟩,⟨⟨w,C⟩,u⟩,rfl⟩;have:i=0\/i=1:=Dv;rcases this with rfl|rfl
     .rw[k];exact .inr ⟨v,J5⟩
     .rw[n];exact .inr ⟨z,J5⟩
    .cases h
   .cases h
  .cases h
 .exact C0
 .rintro⟨A,B⟩ ⟨⟨⟨hA,_⟩,hB,_⟩,k⟩;refine X0 _ ?_;(repeat' first|constructor|intro h)<;>refine Lm ?_
  all_goals(try simp only[]at*)
  refine⟨(0:Nat),Dv,?_,?_⟩
  .exact X0g
  .intro i b;replace b:i<=2:=b;have j:i=0\/i=1\/i=2:=Dv;rcases j with rfl|rfl|rfl
   .refine X0a _ ?_;(repeat' first|constructor|intro h)<;>refine Lm ?_
    all_goals(try first
     |exact B2)
    refine⟨1,Dv,Dv,?_⟩;all_goals refine X0a _ ?_;(repeat' first|constructor|intro h)<;>refine Lm ?_
    all_goals first|rfl|(simp[d5b];done)|exact A4|skip
   .refine X0a _ ?_;(repeat' first|constructor|intro h)<;>refine Lm ?_
    all_goals(try first
     |exact B2)
    refine⟨2,Dv,Dv,?_⟩;all_goals refine X0a _ ?_;(repeat' first|constructor|intro h)<;>refine Lm ?_
    all_goals first|rfl|(simp[d5b];done)|exact A4|skip
   .refine X0a _ ?_;(repeat' first|constructor|intro h)<;>refine Lm ?_
    all_goals(try first
     |exact B2)
    refine⟨(0:Nat),Dv,?_,?_⟩
    .refine X0a _ ?_;(repeat' first|constructor|intro h)<;>refine Lm ?_
     all_goals first|exact B5|(intro q E;exact absurd E (Jq _))|skip
    .intro i b;replace b:i<=2:=b;have d:d4w A B 0=[]:=rfl;have f:d4w A B 1=A:=rfl;have l:d4w A B 2=A++B:=rfl;have j:i=0\/i=1\/i=2:=Dv;rcases j with rfl|rfl|rfl
     .refine X0a _ ?_;(repeat' first|constructor|intro h)<;>refine Lm ?_
      all_goals(try first
       |exact A3
       |exact⟨by simp only[d,Mi];omega,MU Dw (by simp only[d,Mi];omega)⟩)
      refine⟨1,Dv,Dv,?_⟩;all_goals refine X0a _ ?_;(repeat' first|constructor|intro h)<;>refine Lm ?_
      all_goals first
       |rfl
       |(simp only[d,f,Mi,Iw];done)
       |exact A4
       |(intro q _;left;have e:=c3j AA [] A q;exact e)
       |skip
     .refine X0a _ ?_;(repeat' first|constructor|intro h)<;>refine Lm ?_
      all_goals(try first
       |exact A3
       |exact⟨by simp only[f];omega,MU Dw (by simp only[f];omega)⟩)
      refine⟨2,Dv,Dv,?_⟩;all_goals refine X0a _ ?_;(repeat' first|constructor|intro h)<;>refine Lm ?_
      all_goals first
       |rfl
       |(simp only[f,l,Iw];done)
       |exact A4
       |(intro q _;left;have e:=c3j AA A B q;exact e)
       |skip
     .exact X0g
end Go.Proofs.YtaihldljnlgnoaaGreatDoor.V
