/-
  Parts of the proof: N1 T3 P7 A15 B0 A16 A1 A2 A3 P1 P2 A4 P4 A5 P3 P8 P9 C1 C2 A6 A7 P10 A8 A9 C3 Q1. Conditions: none.
-/
import Derived.Test.YtaihldljnlgnoaaGreatDoorSkc5
import Derived.Test.YtaihldljnlgnoaaGreatDoorChecked
import Derived.Shelf.SlSortCmp.NoneTotal
set_option maxRecDepth 100000
set_option maxHeartbeats 40000000
namespace Go.Proofs.YtaihldljnlgnoaaGreatDoor.V
open Go
def QB:AK
 | []=>some (True,.bool true)
 |_=>none
def SV.roT(own:List Blk):SV->Option SV
 |.tup a=>(a.mapM (SV.roA own)).map .tup
 |s=>s.roA own
theorem d32{w:World}{μ:Mu}{g:Nat}{X A:Nat->Prop}{own:List Blk}(j:Own g X A w μ own){s t:SV}{v:Value}(c:D w (held A μ) μ s v)(a:s.roT own=some t):D w A BN t v:=by
 have b:∀{s t:SV} {v:Value},D w (held A μ) μ s v->s.roA own=some t->D w A BN t v:=λh e=>Wd j (λ_ _ h=>h) (A':=A) (λ_ h=>.inl h) h e (λ_ _ h=>h);unfold SV.roT at a;split at a
 .rename_i k;simp only[Jc]at a;obtain⟨ts,l,rfl⟩:=a;obtain⟨l1,m⟩:=OE l;cases c with
  |tup n o c=>
   refine .tup n (by rw[o,l1]) (λi t v ht q=> ?_);have d:i<k.length:=Gz;obtain⟨y,f,e⟩:=m i _ (J6 d);rw[ht]at f;cases f;exact b (c i _ v (J6 d) q) e
 .exact b c a
theorem XZ{f:FuncId}{k d:AK}(h:PS f k)(hs:∀a b s,d a=some (b,s)->b->∃q,k a=some (q,s)/\q):PS f d:=⟨h.1,λA w a c b s g i j e l=>by obtain⟨q,m,n⟩:=hs a b s e l;exact h.2 A w a c q s g i j m n⟩
theorem ps_le{f:FuncId}{k g:AK}(h:PS f k)(hs:∀a b s,g a=some (b,s)->b->∃q d,k a=some (q,d)/\q/\d.le2 s):PS f g:=⟨h.1,λA w a c b s i j l e m=>by obtain⟨q,d,n,o,p⟩:=hs a b s e m;refine(h.2 A w a c q d i j l n o).mono ?_;rintro e w' ⟨v,rfl,r,t⟩;exact⟨v,rfl,Qu r p,t⟩⟩
def HK.view(h:HK):AK:=λa=>(h a []).bind λr=>(r.res.roT r.own).map λs=>(r.pre,s)
theorem c8q{f:FuncId}{h:HK}(H:HS f h):PS f h.view:=by
 refine⟨H.1,λA w d j pre s m n o a y=> ?_⟩;simp only[HK.view,Jd,Ih]at a;obtain⟨r,z,t,B,rfl,rfl⟩:=a;have C:∀b,held A BN b->A b:=λb l=>by
  rcases l with l|⟨k,x,a,_⟩
  .exact l
  .cases a
 have p:Keeps w w A (held A BN) BN BN:=⟨Jf _,λ_ _ _=>rfl,λb _ l=>C b l,λ_ _ h=>h⟩
 have E:Own 0 (λ_=>True) A w BN []:=by
  refine⟨?_,?_,?_,m⟩
  .intro k x a;cases a
  .intro k k' x x' b a;cases a
  .intro k x b a;cases a
 refine(H.2 A w d j [] BN r m (λg q u=>⟨(n g q u).1,(n g q u).2.keep p⟩) E (λ_ _=>rfl) ⟨o.1,λi s v hs F=>(o.2 i s v hs F).keep p⟩ z y).mono ?_;rintro e w' ⟨v,μ',rfl,G,_,I,_,c⟩;exact⟨v,rfl,d32 G I B,⟨c.os,c.tape,c.output,c.drawn,c.size,λi J _=>c.block i J (λ⟨k,x,a,_⟩=>by cases a)⟩⟩
structure Cr where
 c:Int
 e:Int
 k:Int
 deriving DecidableEq
def d0:Cr:=⟨0,0,0⟩
def VP(x:Cr):List SV:=[.int .i64 x.c,.int .u8 x.e,.int .u8 x.k]
def crOf:List SV->Cr
 | [.int _ a,.int _ b,.int _ c]=>⟨a,b,c⟩
 |_=>d0
def DU(l:List Cr)(i:Nat):List SV:=VP (l.getD i d0)
def DZ(n:Nat)(f:Nat->List SV):List Cr:=(List.range n).map λi=>crOf (f i)
def KZ(n:Nat)(f:Nat->List SV):Prop:=∀i,i<n->f i=VP (crOf (f i))
def NU:SV->Option (Nat×(Nat->List SV))
 |.sl 3 n f _=>some (n,f)
 |.con (.slice none 0 0)=>some (0,λ_=>[])
 |_=>none
theorem Do(l:List Cr):KZ l.length (DU l):=λ_ _=>rfl
theorem RP(n:Nat)(f:Nat->List SV):(DZ n f).length=n:=by simp[DZ]
theorem d38{n:Nat}{f:Nat->List SV}(h:KZ n f):∀i,i<n->f i=DU (DZ n f) i:=by intro i a;rw[h i a];simp[DU,DZ,a]
theorem CI(l:List Cr):DZ l.length (DU l)=l:=by
 apply M9;intro i;by_cases a:i<l.length
 .simp[DZ,DU,a,VP,crOf]
 .simp at a;simp[DZ,a]
theorem IW{s:SV}{sz n:Nat}{f:Nat->List SV}{c:Option Nat}(h:s.le0 (.sl sz n f c)):s.le2 (.sl sz n f c):=by cases s<;>exact h
theorem QH{s:SV}{n:Nat}{f:Nat->List SV}(h:NU s=some (n,f))(a:KZ n f):SV.le0 s (.sl 3 (DZ n f).length (DU (DZ n f)) none):=by
 unfold NU at h;split at h
 .cases h;simp only[SV.le0,HQ,RP,Kp,Nt];exact RQ (d38 a)
 .cases h;simp[SV.le0,DZ,HQ]
 .cases h
theorem d3g{sz n:Nat}{f:Nat->List SV}(c:Option Nat):SV.le0 (.sl sz n f c) (.sl sz n f none):=by simp only[SV.le0,HQ,Kp,Nt];exact λi hi=>.inl rfl
theorem c8v(sz:Nat){f:Nat->List SV}:SV.le0 (.con (.slice none 0 0)) (.sl sz 0 f none):=by simp[SV.le0,HQ]
theorem LP{b n:Nat}(h:Nat.ble b 128=true)(a:n*128<=140737488355328):n*b<=140737488355328:=
 Kz (Nat.mul_le_mul_left _ (Nat.le_of_ble_eq_true h)) a
def WL:AK
 | [.sl 1 n f _]=>some (n<=100000,.sl 1 n f (some n))
 | [.con (.slice none 0 0)]=>some (True,.sl 1 0 (λ_=>[]) (some 0))
 |_=>none
def f0k:Fam:=⟨Nat×(Nat->List SV),λ(n,f)=>[.sl 1 n f none],λ(n,_)=>n<=100000,λ(n,f)=>.sl 1 n f (some n)⟩
theorem c0c:PS 130 WL:=by
 refine con [] Dz f0k (λ_ _=>none) WL ?_ ?_ Tryz.func130 Dy Dy Dy ?_
 .intro args pre s h hp;unfold WL at h;split at h
  .rename_i n f c;cases h;exact C1
  .cases h;exact C4
  .cases h
 .exact By
 .rintro⟨n,f⟩ hp;replace hp:n<=100000:=hp;refine X0a _ ?_;(repeat' first|constructor|intro h)<;>refine Lm ?_
  all_goals(first
   |exact Ar
   |(show some ((n:Int)-0).toNat=some n;congr 1)
   |(intro i hi;congr 1;simp;done)
   |skip)
def Ya:AK
 | [.sl 1 n f _]=>some (n<=100000,.sl 1 n f none)
 | [.con (.slice none 0 0)]=>some (True,.sl 1 0 (λ_=>[]) none)
 |_=>none
def d1m:Fam:=⟨Nat×(Nat->List SV),λ(n,f)=>[.sl 1 n f none],λ(n,_)=>n<=100000,λ(n,f)=>.sl 1 n f none⟩
theorem c19:PS 131 Ya:=by
 refine con [] Dz d1m (λ_ _=>none) Ya ?_ ?_ Tryz.func131 Dy Dy Dy ?_
 .intro args pre s h hp;unfold Ya at h;split at h
  .rename_i n f c;cases h;exact C1
  .cases h;exact C4
  .cases h
 .exact By
 .rintro⟨n,f⟩ hp;replace hp:n<=100000:=hp;refine X0a _ ?_;(repeat' first|constructor|intro h)<;>refine Lm ?_
  all_goals(first
   |omega
   |exact B7
   |(intro i hi;simp;done)
   |skip)
def b1i:AK
 | [.sl 4 n f _]=>some (n<=100000,.sl 4 n f (some n))
 | [.con (.slice none 0 0)]=>some (True,.sl 4 0 (λ_=>[]) (some 0))
 |_=>none
def c9i:Fam:=⟨Nat×(Nat->List SV),λ(n,f)=>[.sl 4 n f none],λ(n,_)=>n<=100000,λ(n,f)=>.sl 4 n f (some n)⟩
theorem d0b:PS 101 b1i:=by
 refine con [] Dz c9i (λ_ _=>none) b1i ?_ ?_ Tryz.func101 Dy Dy Dy ?_
 .intro args pre s h hp;unfold b1i at h;split at h
  .rename_i n f c;cases h;exact C1
  .cases h;exact C4
  .cases h
 .exact By
 .rintro⟨n,f⟩ hp;replace hp:n<=100000:=hp;refine X0a _ ?_;(repeat' first|constructor|intro h)<;>refine Lm ?_
  all_goals(first
   |exact Ar
   |(show some ((n:Int)-0).toNat=some n;congr 1)
   |(intro i hi;congr 1;simp;done)
   |skip)
def b0r:AK
 | [.sl 4 n f _]=>some (n<=100000,.sl 4 n f none)
 | [.con (.slice none 0 0)]=>some (True,.sl 4 0 (λ_=>[]) none)
 |_=>none
def c3e:Fam:=⟨Nat×(Nat->List SV),λ(n,f)=>[.sl 4 n f none],λ(n,_)=>n<=100000,λ(n,f)=>.sl 4 n f none⟩
theorem c56:PS 102 b0r:=by
 refine con [] Dz c3e (λ_ _=>none) b0r ?_ ?_ Tryz.func102 Dy Dy Dy ?_
 .intro args pre s h hp;unfold b0r at h;split at h
  .rename_i n f c;cases h;exact C1
  .cases h;exact C4
  .cases h
 .exact By
 .rintro⟨n,f⟩ hp;replace hp:n<=100000:=hp;refine X0a _ ?_;(repeat' first|constructor|intro h)<;>refine Lm ?_
  all_goals(first
   |omega
   |exact B7
   |(intro i hi;simp;done)
   |skip)
def b0w:AK
 | [.sl 3 n f _]=>some (n<=100000,.sl 3 n f (some n))
 | [.con (.slice none 0 0)]=>some (True,.sl 3 0 (λ_=>[]) (some 0))
 |_=>none
def c3r:Fam:=⟨Nat×(Nat->List SV),λ(n,f)=>[.sl 3 n f none],λ(n,_)=>n<=100000,λ(n,f)=>.sl 3 n f (some n)⟩
theorem c39:PS 77 b0w:=by
 refine con [] Dz c3r (λ_ _=>none) b0w ?_ ?_ Tryz.func77 Dy Dy Dy ?_
 .intro args pre s h hp;unfold b0w at h;split at h
  .rename_i n f c;cases h;exact C1
  .cases h;exact C4
  .cases h
 .exact By
 .rintro⟨n,f⟩ hp;replace hp:n<=100000:=hp;refine X0a _ ?_;(repeat' first|constructor|intro h)<;>refine Lm ?_
  all_goals(first
   |exact Ar
   |(show some ((n:Int)-0).toNat=some n;congr 1)
   |(intro i hi;congr 1;simp;done)
   |skip)
def b0b:AK
 | [.sl 3 n f _]=>some (n<=100000,.sl 3 n f none)
 | [.con (.slice none 0 0)]=>some (True,.sl 3 0 (λ_=>[]) none)
 |_=>none
def c2z:Fam:=⟨Nat×(Nat->List SV),λ(n,f)=>[.sl 3 n f none],λ(n,_)=>n<=100000,λ(n,f)=>.sl 3 n f none⟩
theorem c34:PS 78 b0b:=by
 refine con [] Dz c2z (λ_ _=>none) b0b ?_ ?_ Tryz.func78 Dy Dy Dy ?_
 .intro args pre s h hp;unfold b0b at h;split at h
  .rename_i n f c;cases h;exact C1
  .cases h;exact C4
  .cases h
 .exact By
 .rintro⟨n,f⟩ hp;replace hp:n<=100000:=hp;refine X0a _ ?_;(repeat' first|constructor|intro h)<;>refine Lm ?_
  all_goals(first
   |omega
   |exact B7
   |(intro i hi;simp;done)
   |skip)
def b2g:AK
 | [.sl 2 n f _]=>some (n<=100000,.sl 2 n f (some n))
 | [.con (.slice none 0 0)]=>some (True,.sl 2 0 (λ_=>[]) (some 0))
 |_=>none
def d0y:Fam:=⟨Nat×(Nat->List SV),λ(n,f)=>[.sl 2 n f none],λ(n,_)=>n<=100000,λ(n,f)=>.sl 2 n f (some n)⟩
theorem d5a:PS 145 b2g:=by
 refine con [] Dz d0y (λ_ _=>none) b2g ?_ ?_ Tryz.func145 Dy Dy Dy ?_
 .intro args pre s h hp;unfold b2g at h;split at h
  .rename_i n f c;cases h;exact C1
  .cases h;exact C4
  .cases h
 .exact By
 .rintro⟨n,f⟩ hp;replace hp:n<=100000:=hp;refine X0a _ ?_;(repeat' first|constructor|intro h)<;>refine Lm ?_
  all_goals(first
   |exact Ar
   |(show some ((n:Int)-0).toNat=some n;congr 1)
   |(intro i hi;congr 1;simp;done)
   |skip)
def b2e:AK
 | [.sl 3 n f _]=>some (n<=100000,.sl 3 n f (some n))
 | [.con (.slice none 0 0)]=>some (True,.sl 3 0 (λ_=>[]) (some 0))
 |_=>none
def d74:Fam:=⟨Nat×(Nat->List SV),λ(n,f)=>[.sl 3 n f none],λ(n,_)=>n<=100000,λ(n,f)=>.sl 3 n f (some n)⟩
theorem d34:PS 147 b2e:=by
 refine con [] Dz d74 (λ_ _=>none) b2e ?_ ?_ Tryz.func147 Dy Dy Dy ?_
 .intro args pre s h hp;unfold b2e at h;split at h
  .rename_i n f c;cases h;exact C1
  .cases h;exact C4
  .cases h
 .exact By
 .rintro⟨n,f⟩ hp;replace hp:n<=100000:=hp;refine X0a _ ?_;(repeat' first|constructor|intro h)<;>refine Lm ?_
  all_goals(first
   |exact Ar
   |(show some ((n:Int)-0).toNat=some n;congr 1)
   |(intro i hi;congr 1;simp;done)
   |skip)
structure RT (α:Type)where
 sz:Nat
 sv:α->List SV
 of:List SV->α
 d:α
 ok:∀x,of (sv x)=x
def RT.row{α:Type}(R:RT α)(l:List α)(i:Nat):List SV:=R.sv (l.getD i R.d)
def RT.lst{α:Type}(R:RT α)(n:Nat)(f:Nat->List SV):List α:=(List.range n).map λi=>R.of (f i)
def RT.is{α:Type}(R:RT α)(n:Nat)(f:Nat->List SV):Prop:=∀i,i<n->f i=R.sv (R.of (f i))
theorem RT.is_row{α:Type}(R:RT α)(l:List α):R.is l.length (R.row l):=λi _=>by simp only[RT.row,R.ok]
theorem RT.lst_length{α:Type}(R:RT α)(n:Nat)(f:Nat->List SV):(R.lst n f).length=n:=by simp[RT.lst]
theorem RT.row_lst{α:Type}(R:RT α){n:Nat}{f:Nat->List SV}(h:R.is n f):∀i,i<n->f i=R.row (R.lst n f) i:=by intro i a;rw[h i a];simp[RT.row,RT.lst,a]
theorem RT.lst_row{α:Type}(R:RT α)(l:List α):R.lst l.length (R.row l)=l:=by
 apply M9;intro i;by_cases a:i<l.length
 .simp[RT.lst,RT.row,a,R.ok]
 .simp at a;simp[RT.lst,a]
def RT.as{α:Type}(R:RT α):SV->Option (Nat×(Nat->List SV))
 |.sl a n f _=>if a=R.sz then some (n,f)else none
 |.con (.slice none 0 0)=>some (0,λ_=>[])
 |_=>none
theorem RT.as_le{α:Type}(R:RT α){s:SV}{n:Nat}{f:Nat->List SV}(h:R.as s=some (n,f))(a:R.is n f):SV.le0 s (.sl R.sz (R.lst n f).length (R.row (R.lst n f)) none):=by
 unfold RT.as at h;split at h
 .split at h
  .rename_i b;cases h;simp only[SV.le0,HQ,RT.lst_length,b,Nt];exact⟨Ja,RQ (R.row_lst a)⟩
  .cases h
 .cases h;simp[SV.le0,RT.lst,HQ]
 .cases h
structure Mv where
 t:Int
 x:Int
 y:Int
 deriving DecidableEq
def AE:RT Mv:=⟨3,λm=>[.int .u8 m.t,.int .i64 m.x,.int .i64 m.y],λl=>match l with
 | [.int _ a,.int _ b,.int _ c]=>⟨a,b,c⟩
 |_=>⟨0,0,0⟩,⟨0,0,0⟩,λ_=>rfl⟩
def AC:RT Int:=⟨1,λn=>[.int .i64 n],λl=>match l with
 | [.int _ a]=>a
 |_=>0,0,λ_=>rfl⟩
def FY:RT Bool:=⟨1,λb=>[.bool b],λl=>match l with
 | [.bool b]=>b
 |_=>false,false,λ_=>rfl⟩
theorem b15{α:Type}(R:RT α){l:List α}{n j:Nat}{m:α}(h:n<l.length)(e:j=n):R.row (l.set n m) j=R.sv m:=by subst e;simp[RT.row,h]
theorem b3g{α:Type}(R:RT α){l:List α}{n j:Nat}{m:α}(e:¬j=n):R.row (l.set n m) j=R.row l j:=by simp only[RT.row,J5,Jk (Ne.symm e)]
theorem b0a{α:Type}(R:RT α){l r:List α}{j:Nat}(h:j<l.length):R.row (l++r) j=R.row l j:=by simp only[RT.row,J5,Jg h]
theorem b09{α:Type}(R:RT α){l:List α}{x:α}:R.row (l++[x]) l.length=R.sv x:=by simp[RT.row]
theorem d8t{α:Type}(R:RT α)(x:α)(r:List α)(j:Nat):R.row (x::r) (1+j)=R.row r j:=by rw[Nat.add_comm];rfl
theorem Rs{b:Nat}{n:Int}(h:Nat.ble b 128=true)(a:0<=n)(c:128*n<=281474976710656):(b:Int)*n<=281474976710656:=by have:b<=128:=Nat.le_of_ble_eq_true h;exact Int.le_trans (Int.mul_le_mul_of_nonneg_right Dx a) c
def upto{α:Type}(A B:Nat->α)(i j:Nat):α:=if j<i then A j else B j
theorem b68{α:Type}(R:RT α)(c:∀a b,Bl true (R.sv a) (R.sv b)=R.sv a)(d:∀a b,Bl false (R.sv a) (R.sv b)=R.sv b)(A B:Nat->α)(i j:Nat):
 Bl (decide (j=i)) (R.sv (A i)) (R.sv (upto A B i j))=R.sv (upto A B (i+1) j):=by
 by_cases e:j=i
 .subst e;rw[Jr rfl,c];simp[upto]
 .rw[Jq e,d];by_cases h:j<i
  .simp[upto,h,show j<i+1 from Dx]
  .simp[upto,h,show¬j<i+1 from Dx]
theorem b6h{α:Type}(A B:Nat->α)(j:Nat):upto A B 0 j=B j:=by simp[upto]
theorem b8j{α:Type}(A B:Nat->α){i j:Nat}(h:j<i):upto A B i j=A j:=by simp[upto,h]
theorem c0s{α:Type}(A B:Nat->α){i j:Nat}(h:i<=j):upto A B i j=B j:=by simp[upto,show¬j<i from Dx]
def MA(f:Nat->Int):Nat->Nat->Int
 |0,_=>0
 |n+1,i=>if f i=0 then MA f n (i+1)else f i
theorem b64{f:Nat->Int}:∀{n i:Nat},MA f n i=0->∀j,i<=j->j<i+n->f j=0
 |0,i,_,j,b,c=>Dx
 |n+1,i,h,j,b,c=>by
  simp only[MA]at h;split at h
  .rename_i a;by_cases e:j=i
   .rw[e];exact a
   .exact b64 h j Dx Dx
  .rename_i a;exact absurd h a
structure Cl where
 x:Int
 y:Int
 q:Int
 deriving DecidableEq
def DE:RT Cl:=⟨3,λc=>[.int .i64 c.x,.int .i64 c.y,.int .u8 c.q],λl=>match l with
 | [.int _ a,.int _ b,.int _ c]=>⟨a,b,c⟩
 |_=>⟨0,0,0⟩,⟨0,0,0⟩,λ_=>rfl⟩
structure Stk where
 c:Cl
 l:List Int
 deriving DecidableEq
def Th:List SV->Stk
 | [.int _ a,.int _ b,.int _ c,s]=>⟨⟨a,b,c⟩,match AC.as s with|some (n,f)=>AC.lst n f|none=>[]⟩
 |_=>⟨⟨0,0,0⟩,[]⟩
def AA:RT Stk:=⟨4,λs=>[.int .i64 s.c.x,.int .i64 s.c.y,.int .u8 s.c.q,.sl 1 s.l.length (AC.row s.l) none],Th,⟨⟨0,0,0⟩,[]⟩,λs=>by have:AC.lst s.l.length (AC.row s.l)=s.l:=RT.lst_row _ _;show Th [.int .i64 s.c.x,.int .i64 s.c.y,.int .u8 s.c.q,.sl 1 s.l.length (AC.row s.l) none]=s;have h:AC.as (.sl 1 s.l.length (AC.row s.l) none)=some (s.l.length,AC.row s.l):=rfl;simp only[Th,h,this]⟩
def RT.isL{α:Type}(R:RT α)(n:Nat)(f:Nat->List SV):Prop:=∀i,i<n->Fl (f i) (R.sv (R.of (f i)))
theorem RT.isL_row{α:Type}(R:RT α)(l:List α):R.isL l.length (R.row l):=λi _=>.inl (by simp only[RT.row,R.ok])
theorem RT.isL_of{α:Type}(R:RT α){n:Nat}{f:Nat->List SV}(l:List α)(_:n=l.length)(h:∀i,i<n->f i=R.row l i):R.isL n f:=λi a=>.inl (by rw[h i a];simp only[RT.row,R.ok])
theorem RT.as_leL{α:Type}(R:RT α){s:SV}{n:Nat}{f:Nat->List SV}(h:R.as s=some (n,f))(a:R.isL n f):SV.le0 s (.sl R.sz (R.lst n f).length (R.row (R.lst n f)) none):=by
 unfold RT.as at h;split at h
 .split at h
  .rename_i b;cases h;simp only[SV.le0,HQ,RT.lst_length,b,Nt];refine⟨Ja,λi hi=> ?_⟩;have:=a i hi;have e:R.row (R.lst n f) i=R.sv (R.of (f i)):=I0;rw[e];exact this
  .cases h
 .cases h;simp[SV.le0,RT.lst,HQ]
 .cases h
def BV(l:List Int)(v:Int):Int:=match l.findIdx? (λx=>decide (x=v))with
 |some i=>i
 |none=> -1
theorem c7b{l:List Int}{v:Int}{i:Nat}(hi:i<l.length)(h:∀j,j<i->l.getD j 0≠v)(a:l.getD i 0=v):BV l v=i:=by
 have:l.findIdx? (λx=>decide (x=v))=some i:=by
  rw[L1];refine⟨hi,?_,λj b=> ?_⟩
  .simpa[J5,hi]using a
  .have:=h j b;have c:j<l.length:=Dx;simpa[J5,c]using this
 simp[BV,this]
theorem d5m{l:List Int}{v:Int}(h:∀j,j<l.length->l.getD j 0≠v):BV l v= -1:=by
 have:l.findIdx? (λx=>decide (x=v))=none:=by rw[Lg];intro x hx;obtain⟨j,a,rfl⟩:=K7.1 hx;have:=h j a;simpa[J5,a]using this
 simp[BV,this]
def b98:AK
 | [x,.int .i64 v]=>match AC.as x with
   |some (n,f)=>some (AC.isL n f/\n<=100000,.int .i64 (BV (AC.lst n f) v))
   |none=>none
 |_=>none
def d1e:Fam:=⟨List Int×Int,λ(l,v)=>[.sl 1 l.length (AC.row l) none,.int .i64 v],λ(l,_)=>l.length<=100000,λ(l,v)=>.int .i64 (BV l v)⟩
def g0s:List Int×Int->Nat->Option Inv
 |(l,v),2=>some {β:=Nat,ok:=λi=>i<=l.length/\∀j,j<i->l.getD j 0≠v,st:=λi=>⟨[⟨8,none,.int .i64 i⟩,⟨7,none,.int .i64 l.length⟩,⟨1,none,.int .i64 v⟩,⟨0,none,.sl 1 l.length (AC.row l) none⟩],[]⟩,μ:=λi=>l.length-i}
 |_,_=>none
theorem g17:PS 151 b98:=by
 refine con [] Dz d1e g0s b98 ?_ ?_ Tryz.func151 Dy Dy Dy ?_
 .intro args pre s h a;unfold b98 at h;split at h
  .split at h
   .rename_i n f hx;cases h;exact⟨(AC.lst n f,_),⟨IW (AC.as_leL hx a.1),E6,Ja⟩,by simp only[d1e,RT.lst_length];exact a.2,rfl⟩
   .cases h
  .cases h
 .exact Bx
 .rintro⟨l,v⟩ a;replace a:l.length<=100000:=a;refine X0a _ ?_;(repeat' first|constructor|intro h)<;>refine Lm ?_
  refine⟨(0:Nat),⟨Jj _,λj g=>Dx⟩,?_,?_⟩
  .exact X0d
  .intro i k;obtain⟨f7,c⟩:=k;refine X0a _ ?_;(repeat' first|constructor|intro h)<;>refine Lm ?_
   all_goals(try simp only[If]at*)
   all_goals(first
    |exact Ak
    |(refine(c7b Dx c ?_).symm;exact(by assumption:v=l.getD i AC.d).symm)
    |(refine⟨i+1,⟨Dx,λj g=> ?_⟩,Ea,?_⟩)
    |(refine(d5m λj g=> ?_).symm;exact c j Dx)
    |skip)
   .by_cases e:j<i
    .exact c j e
    .have:j=i:=Dx;subst this;have q:¬v=l.getD j AC.d:=E2;exact λe=>q e.symm
   .exact X0e
def c0b:AK
 | [.agg [.int .i64 a,.int .i64 b,.int .u8 c,x]]=>match AC.as x with
   |some (n,f)=>some (AC.isL n f/\n<=100000,.agg [.int .i64 a,.int .i64 b,.int .u8 c,.sl 1 (AC.lst n f).length (AC.row (AC.lst n f)) (some (AC.lst n f).length)])
   |none=>none
 |_=>none
def d52:Fam:=⟨Stk,λs=>[.agg [.int .i64 s.c.x,.int .i64 s.c.y,.int .u8 s.c.q,.sl 1 s.l.length (AC.row s.l) none]],λs=>s.l.length<=100000,λs=>.agg [.int .i64 s.c.x,.int .i64 s.c.y,.int .u8 s.c.q,.sl 1 s.l.length (AC.row s.l) (some s.l.length)]⟩
theorem f7j:PS 87 c0b:=by
 refine con [(131,Ya),(130,WL)] (by simpa using⟨c19,c0c⟩) d52 (λ_ _=>none) c0b ?_ ?_ Tryz.func87 Dy Dy Dy ?_
 .intro args pre s h d;unfold c0b at h;split at h
  .split at h
   .rename_i a b c y q n f hx;cases h;exact⟨⟨⟨a,b,c⟩,AC.lst n f⟩,⟨⟨E3,E3,E3,AC.as_leL hx d.1,Ja⟩,Ja⟩,by simp only[d52,RT.lst_length];exact d.2,rfl⟩
   .cases h
  .cases h
 .exact By
 .rintro s d;replace d:s.l.length<=100000:=d;exact X0e
def LI(x:SV):Option (Prop×List Stk):=(AA.as x).map λq=>(AA.isL q.1 q.2/\q.1<=100000/\∀s∈AA.lst q.1 q.2,s.l.length<=100000,AA.lst q.1 q.2)
def FX(L:List Stk):Prop:=L.length<=100000/\∀s∈L,s.l.length<=100000
def FN(L:List Stk):SV:=.sl 4 L.length (AA.row L) none
theorem Py{x:SV}{q:Prop}{L:List Stk}(h:LI x=some (q,L))(hq:q):x.le2 (FN L)/\FX L:=by unfold LI at h;simp only[Ih]at h;obtain⟨⟨n,f⟩,hx,rfl,rfl⟩:=h;exact⟨IW (AA.as_leL hx hq.1),H8,hq.2.2⟩
theorem MH(L:List Stk)(h:FX L):AA.isL L.length (AA.row L)/\L.length<=100000/\∀s∈L,s.l.length<=100000:=⟨AA.isL_row L,h⟩
theorem IC(L:List Stk):AA.lst L.length (AA.row L)=L:=RT.lst_row AA L
theorem Su{L:List Stk}(h:FX L)(i:Nat):(L.getD i AA.d).l.length<=100000:=by
 rw[J5];cases hg:L[i]? with
 |none=>show 0<=_;omega
 |some s=>exact h.2 s (Jb hg)
def AY(L:List Stk)(c:Cl):List Int:=match L.find? (λs=>decide (s.c=c))with
 |some s=>s.l
 |none=>[]
theorem b41{L:List Stk}{c:Cl}{i:Nat}(hi:i<L.length)(h:∀j,j<i->(L.getD j AA.d).c≠c)(hc:(L.getD i AA.d).c=c):AY L c=(L.getD i AA.d).l:=by
 have:L.find? (λs=>decide (s.c=c))=some (L.getD i AA.d):=by rw[List.find?_eq_some_iff_getElem];refine⟨Et,i,hi,by simp[hi],λj a=> ?_⟩;have:=h j a;have b:j<L.length:=Dx;simpa[J5,b]using this
 simp[AY,this]
theorem c1n{L:List Stk}{c:Cl}(h:∀j,j<L.length->(L.getD j AA.d).c≠c):AY L c=[]:=by
 have:L.find? (λs=>decide (s.c=c))=none:=by rw[List.find?_eq_none];intro s hs;obtain⟨j,a,rfl⟩:=K7.1 hs;have:=h j a;simpa[J5,a]using this
 simp[AY,this]
theorem clEq(a b:Cl):(decide (a.x=b.x)&&(decide (a.y=b.y)&&(decide (a.q=b.q)&&true)))=decide (a=b):=by cases a;cases b;simp[Bool.decide_and]
def f0j:AK
 | [x,.agg [.int .i64 a,.int .i64 b,.int .u8 c]]=>(LI x).map λq=>(q.1,.sl 1 (AY q.2 ⟨a,b,c⟩).length (AC.row (AY q.2 ⟨a,b,c⟩)) none)
 |_=>none
def FStAt:Fam:=⟨List Stk×Cl,λ(L,c)=>[FN L,.agg [.int .i64 c.x,.int .i64 c.y,.int .u8 c.q]],λ(L,_)=>FX L,λ(L,c)=>.sl 1 (AY L c).length (AC.row (AY L c)) none⟩
def IStAt:List Stk×Cl->Nat->Option Inv
 |(L,c),2=>some {β:=Nat,ok:=λi=>i<=L.length/\∀j,j<i->(L.getD j AA.d).c≠c,st:=λi=>⟨[⟨9,none,.int .i64 i⟩,⟨8,none,.int .i64 L.length⟩,⟨7,none,FN L⟩,⟨3,none,.own 0 0⟩],[.cells 39 [.int .i64 c.x,.int .i64 c.y,.int .u8 c.q]]⟩,μ:=λi=>L.length-i}
 |_,_=>none
theorem pStAt:PS 111 f0j:=by
 refine con [(131,Ya),(130,WL)] (by simpa using⟨c19,c0c⟩) FStAt IStAt f0j ?_ ?_ Tryz.func111 Dy Dy Dy ?_
 .intro args pre s h d;unfold f0j at h;split at h
  .rename_i x a b c;simp only[Ih]at h;obtain⟨⟨q,L⟩,hx,rfl,rfl⟩:=h;obtain⟨l,m⟩:=Py hx d;exact⟨(L,⟨a,b,c⟩),⟨l,Ed,Ja⟩,m,rfl⟩
  .cases h
 .exact Bx
 .rintro⟨L,c⟩ d;replace d:FX L:=d;refine X0a _ ?_;(repeat' first|constructor|intro h)<;>refine Lm ?_
  refine⟨(0:Nat),⟨Jj _,λj k=>Dx⟩,?_,?_⟩
  .exact X0d
  .intro i n;obtain⟨f7,f⟩:=n;have hg:=Su d i;have hl:=d.1;refine X0a _ ?_;(repeat' first|constructor|intro h)<;>refine Lm ?_
   all_goals(try simp only[If,clEq]at*)
   all_goals(first
    |exact Ak
    |(rw[b41 Dx f E2];done)
    |(intro j k;rw[b41 Dx f E2];done)
    |(refine⟨i+1,⟨Dx,λj k=> ?_⟩,Ea,?_⟩)
    |(rw[c1n λj k=>f j Dx];rfl)
    |skip)
   .by_cases e:j<i
    .exact f j e
    .have:j=i:=Dx;subst this;assumption
   .exact X0e
def FV(k C:Int):Int:=if 1<=k/\k<=4/\ -4096<=C/\C<=4096 then 0 else 1
def Wz:AK
 | [.agg [.int .u8 k,.int .i64 C]]=>some (True,.int .i64 (FV k C))
 |_=>none
def c5h:Fam:=⟨Int×Int,λ(k,C)=>[.agg [.int .u8 k,.int .i64 C]],λ(_,_)=>True,λ(k,C)=>.int .i64 (FV k C)⟩
theorem c70:PS 86 Wz:=by
 refine con [] Dz c5h (λ_ _=>none) Wz ?_ ?_ Tryz.func86 Dy Dy Dy ?_
 .intro args pre s h a;unfold Wz at h;split at h
  .rename_i k C;cases h;exact⟨(k,C),by simp[c5h,BT,SV.le2,SV.le1,BM,SV.le0],a,rfl⟩
  .cases h
 .exact By
 .rintro⟨k,C⟩ a;replace a:True:=a;refine X0a _ ?_;(repeat' first|constructor|intro h)<;>refine Lm ?_
  all_goals(simp[FV]at h⊢;omega)
def LH(x y:Int):Int:=if -65536<=x/\x<=65536/\ -65536<=y/\y<=65536 then 0 else 1
def b49:AK
 | [.agg [.int .i64 x,.int .i64 y]]=>some (True,.int .i64 (LH x y))
 |_=>none
def c6f:Fam:=⟨Int×Int,λ(x,y)=>[.agg [.int .i64 x,.int .i64 y]],λ(_,_)=>True,λ(x,y)=>.int .i64 (LH x y)⟩
theorem f2f:PS 233 b49:=by
 refine con [] Dz c6f (λ_ _=>none) b49 ?_ ?_ Tryz.func233 Dy Dy Dy ?_
 .intro args pre s h a;unfold b49 at h;split at h
  .rename_i x y;cases h;exact⟨(x,y),by simp[c6f,BT,SV.le2,SV.le1,BM,SV.le0],a,rfl⟩
  .cases h
 .exact By
 .rintro⟨x,y⟩ a;replace a:True:=a;refine X0a _ ?_;(repeat' first|constructor|intro h)<;>refine Lm ?_
  all_goals(simp[LH]at h⊢;omega)
theorem c9v{k C:Int}(h:FV k C=0):1<=k/\k<=4/\ -4096<=C/\C<=4096:=by
 unfold FV at h;split at h
 .assumption
 .cases h
theorem d0d{x y:Int}(h:LH x y=0): -65536<=x/\x<=65536/\ -65536<=y/\y<=65536:=by
 unfold LH at h;split at h
 .assumption
 .cases h
def tA(t:Int):Int:=tb [1,0,-1,0,-1,0,1,0] t.toNat
def tB(t:Int):Int:=tb [0,-1,0,1,0,-1,0,1] t.toNat
def tC(t:Int):Int:=tb [0,1,0,-1,0,-1,0,1] t.toNat
def tD(t:Int):Int:=tb [1,0,-1,0,1,0,-1,0] t.toNat
def FF(a:Int):Prop:= -1<=a/\a<=1
theorem c7k{t:Int}(a:0<=t)(h1:t<8):FF (tA t)/\FF (tB t)/\FF (tC t)/\FF (tD t):=by
 have:∀q:Nat,q<8->FF (tA q)/\FF (tB q)/\FF (tC q)/\FF (tD q):=by unfold FF;decide
 have:=this t.toNat Dx;rwa[Mp a]at this
theorem SW{a x:Int}(h:FF a):a*x=0\/a*x=x\/a*x= -x:=by have h1:=h.1;have h2:=h.2;have:a= -1\/a=0\/a=1:=Dx;rcases this with rfl|rfl|rfl<;>simp
def Uw:AK
 | [.agg [.int .i64 a,.int .i64 b,.int .i64 c,.int .i64 d],.int .i64 x,.int .i64 y]=>some (FF a/\FF b/\FF c/\FF d/\ -1000000<=x/\x<=1000000/\ -1000000<=y/\y<=1000000,.tup [.int .i64 (a*x+b*y),.int .i64 (c*x+d*y)])
 |_=>none
def f5h:Fam:=⟨Int×Int×Int×Int×Int×Int,λ(a,b,c,d,x,y)=>[.agg [.int .i64 a,.int .i64 b,.int .i64 c,.int .i64 d],.int .i64 x,.int .i64 y],λ(a,b,c,d,x,y)=>FF a/\FF b/\FF c/\FF d/\ -1000000<=x/\x<=1000000/\ -1000000<=y/\y<=1000000,λ(a,b,c,d,x,y)=>.tup [.int .i64 (a*x+b*y),.int .i64 (c*x+d*y)]⟩
theorem d3z:PS 52 Uw:=by
 refine con [] Dz f5h (λ_ _=>none) Uw ?_ ?_ Tryz.func52 Dy Dy Dy ?_
 .intro args pre s h e;unfold Uw at h;split at h
  .rename_i a b c d x y;cases h;exact⟨(a,b,c,d,x,y),by simp[f5h,BT,SV.le2,SV.le1,BM,SV.le0],e,rfl⟩
  .cases h
 .exact Bz
 .rintro⟨a,b,c,d,x,y⟩ ⟨f,g,j,k,hx⟩;have e1:=SW (x:=x) f;have e2:=SW (x:=y) g;have e3:=SW (x:=x) j;have e4:=SW (x:=y) k;exact X0f
def b47:AK
 | [.agg [.int .i64 a,.int .i64 b,.int .i64 c,.int .i64 d],.agg [.int .i64 p,.int .i64 q,.int .i64 r,.int .i64 s]]=>some ((FF a/\FF b/\FF c/\FF d)/\FF p/\FF q/\FF r/\FF s,.agg [.int .i64 (p*a+q*c),.int .i64 (p*b+q*d),.int .i64 (r*a+s*c),.int .i64 (r*b+s*d)])
 |_=>none
def c68:Fam:=⟨Int×Int×Int×Int×Int×Int×Int×Int,λ(a,b,c,d,p,q,r,s)=>[.agg [.int .i64 a,.int .i64 b,.int .i64 c,.int .i64 d],.agg [.int .i64 p,.int .i64 q,.int .i64 r,.int .i64 s]],λ(a,b,c,d,p,q,r,s)=>(FF a/\FF b/\FF c/\FF d)/\FF p/\FF q/\FF r/\FF s,λ(a,b,c,d,p,q,r,s)=>.agg [.int .i64 (p*a+q*c),.int .i64 (p*b+q*d),.int .i64 (r*a+s*c),.int .i64 (r*b+s*d)]⟩
theorem d7t:PS 120 b47:=by
 refine con [(52,Uw)] (by simpa using d3z) c68 (λ_ _=>none) b47 ?_ ?_ Tryz.func120 Dy Dy Dy ?_
 .intro args pre s h e;unfold b47 at h;split at h
  .rename_i a b c d p q r s;cases h;exact⟨(a,b,c,d,p,q,r,s),by simp[c68,BT,SV.le2,SV.le1,BM,SV.le0],e,rfl⟩
  .cases h
 .exact Bx
 .rintro⟨a,b,c,d,p,q,r,s⟩ ⟨⟨ha,hb,hc,hd⟩,f,g,j,k⟩;refine X0a _ ?_;(repeat' first|constructor|intro h)<;>refine Lm ?_
  all_goals(first|rfl|(simp only[FF]at*;refine⟨f,g,j,k,?_⟩;omega))
def rowM(i:Nat)(a b c d:Int):Bool:=decide (tb [1,0,-1,0,-1,0,1,0] i=a)&&(decide (tb [0,-1,0,1,0,-1,0,1] i=b)&&(decide (tb [0,1,0,-1,0,-1,0,1] i=c)&&(decide (tb [1,0,-1,0,1,0,-1,0] i=d)&&true)))
def Rk(l:List Nat)(a b c d:Int):Int:=match l with
 | []=>0
 |i::l=>bif rowM i a b c d then i else Rk l a b c d
def numM(a b c d:Int):Int:=Rk [0,1,2,3,4,5,6,7] a b c d
def d9j:SV:=.agg (QJ 0++QJ 1++QJ 2++QJ 3++QJ 4++QJ 5++QJ 6++QJ 7)
def INum:Int×Int×Int×Int->Nat->Option Inv
 |(a,b,c,d),2=>some {β:=Nat,ok:=λi=>i<=8/\numM a b c d=Rk ([0,1,2,3,4,5,6,7].drop i) a b c d,st:=λi=>⟨[⟨6,none,.int .i64 i⟩,⟨5,none,d9j⟩,⟨2,none,.int .u8 0⟩,⟨1,none,.own 0 0⟩],[.cells 119 [.int .i64 a,.int .i64 b,.int .i64 c,.int .i64 d]]⟩,μ:=λi=>8-i}
 |_,_=>none
theorem Rf(i:Nat)(l:List Nat)(a b c d:Int)(h:rowM i a b c d=false):Rk (i::l) a b c d=Rk l a b c d:=by rw[Rk,h,cond_false]
theorem f6n(i:Nat)(l:List Nat)(a b c d:Int)(h:rowM i a b c d=true):Rk (i::l) a b c d=i:=by rw[Rk,h,N1]
def b9u:AK
 | [.agg [.int .i64 a,.int .i64 b,.int .i64 c,.int .i64 d]]=>some (True,.int .u8 (numM a b c d))
 |_=>none
def d3s:Fam:=⟨Int×Int×Int×Int,λ(a,b,c,d)=>[.agg [.int .i64 a,.int .i64 b,.int .i64 c,.int .i64 d]],λ(_,_,_,_)=>True,λ(a,b,c,d)=>.int .u8 (numM a b c d)⟩
theorem f8b:PS 54 b9u:=by
 refine con [] Dz d3s INum b9u ?_ ?_ Tryz.func54 Dy Dy Dy ?_
 .intro args pre s h f;unfold b9u at h;split at h
  .rename_i a b c d;cases h;exact⟨(a,b,c,d),by simp[d3s,BT,SV.le2,SV.le1,BM,SV.le0],f,rfl⟩
  .cases h
 .exact By
 .rintro⟨a,b,c,d⟩ f;replace f:True:=f;refine X0a _ ?_;(repeat' first|constructor|intro h)<;>refine Lm ?_
  refine⟨(0:Nat),⟨Dx,rfl⟩,?_,?_⟩
  .exact X0d
  .intro i j;obtain⟨f7,e⟩:=j;have:i=0\/i=1\/i=2\/i=3\/i=4\/i=5\/i=6\/i=7\/i=8:=Dx;rcases this with rfl|rfl|rfl|rfl|rfl|rfl|rfl|rfl|rfl;all_goals replace e:=e
   all_goals refine X0a _ ?_;(repeat' first|constructor|intro h)<;>refine Lm ?_
   all_goals(first
    |decide
    |exact A4
    |exact e.symm
    |exact(e.trans (f6n _ _ _ _ _ _ h)).symm
    |(first|refine⟨(1:Nat),⟨E1,e.trans (Rf 0 _ _ _ _ _ h)⟩,E1,?_⟩|refine⟨(2:Nat),⟨E1,e.trans (Rf 1 _ _ _ _ _ h)⟩,E1,?_⟩|refine⟨(3:Nat),⟨E1,e.trans (Rf 2 _ _ _ _ _ h)⟩,E1,?_⟩|refine⟨(4:Nat),⟨E1,e.trans (Rf 3 _ _ _ _ _ h)⟩,E1,?_⟩|refine⟨(5:Nat),⟨E1,e.trans (Rf 4 _ _ _ _ _ h)⟩,E1,?_⟩|refine⟨(6:Nat),⟨E1,e.trans (Rf 5 _ _ _ _ _ h)⟩,E1,?_⟩|refine⟨(7:Nat),⟨E1,e.trans (Rf 6 _ _ _ _ _ h)⟩,E1,?_⟩|refine⟨(8:Nat),⟨E1,e.trans (Rf 7 _ _ _ _ _ h)⟩,E1,?_⟩))
   all_goals exact X0g
def cT(t u:Int):Int:=numM (tA u*tA t+tB u*tC t) (tA u*tB t+tB u*tD t) (tC u*tA t+tD u*tC t) (tC u*tB t+tD u*tD t)
theorem cT_le{t u:Int}(a:0<=t)(h1:t<8)(k0:0<=u)(k1:u<8):0<=cT t u/\cT t u<8:=by have:∀q:Nat,q<8->∀r:Nat,r<8->0<=cT q r/\cT q r<8:=Fw;have:=this t.toNat Dx u.toNat Dx;rwa[Mp a,Mp k0]at this
def b8g:AK
 | [.int .i64 n]=>some (True,.bool (or (decide (n< -16384)) (decide (16384<n))))
 |_=>none
def d2y:Fam:=⟨Int,λn=>[.int .i64 n],λ_=>True,λn=>.bool (or (decide (n< -16384)) (decide (16384<n)))⟩
theorem f87:PS 47 b8g:=by
 refine con [] Dz d2y (λ_ _=>none) b8g ?_ ?_ Tryz.func47 Dy Dy Dy ?_
 .intro args pre s h a;unfold b8g at h;split at h
  .rename_i n;cases h;exact⟨n,by simp[d2y,BT,SV.le2,SV.le1,SV.le0],a,rfl⟩
  .cases h
 .exact By
 .intro(n:Int) a;replace a:True:=a;refine X0a _ ?_;(repeat' first|constructor|intro h)<;>refine Lm ?_
  all_goals rfl
def DP(t x y:Int):Int:=if t<8/\ -16384<=x/\x<=16384/\ -16384<=y/\y<=16384/\(x+y)%2=0 then 0 else 1
theorem TK{t x y:Int}(h:DP t x y=0):t<8/\ -16384<=x/\x<=16384/\ -16384<=y/\y<=16384/\(x+y)%2=0:=by
 unfold DP at h;split at h
 .assumption
 .cases h
theorem tmod2(n:Int):n.tmod 2=0↔n%2=0:=by rw[<-Int.dvd_iff_emod_eq_zero,Int.dvd_iff_tmod_eq_zero]
def QU:AK
 | [.agg [.int .u8 t,.int .i64 x,.int .i64 y]]=>some (0<=t/\t<=255,.int .i64 (DP t x y))
 |_=>none
def c65:Fam:=⟨Int×Int×Int,λ(t,x,y)=>[.agg [.int .u8 t,.int .i64 x,.int .i64 y]],λ(t,_,_)=>0<=t/\t<=255,λ(t,x,y)=>.int .i64 (DP t x y)⟩
theorem Tx:PS 17 QU:=by
 refine con [(47,b8g)] (by simpa using f87) c65 (λ_ _=>none) QU ?_ ?_ Tryz.func17 Dy Dy Dy ?_
 .intro args pre s h a;unfold QU at h;split at h
  .rename_i t x y;cases h;exact⟨(t,x,y),by simp[c65,BT,SV.le2,SV.le1,BM,SV.le0],a,rfl⟩
  .cases h
 .exact By
 .rintro⟨t,x,y⟩ a;replace a:0<=t/\t<=255:=a;refine X0a _ ?_;(repeat' first|constructor|intro h)<;>refine Lm ?_
  all_goals(try(simp only[Iq,Ig,Im]at*))
  all_goals(first
   |decide
   |exact A4
   |(unfold DP;rw[if_neg Dx])
   |(intro _;decide)
   |(intros;simp only[AD];omega)
   |(intros;unfold DP;rw[if_neg Dx])
   |(have e:=tmod2 (x+y);unfold DP;rw[if_pos Dx])
   |(have e:=tmod2 (x+y);unfold DP;rw[if_neg Dx]))
def MD(t x y:Int):Int:=if DP t x y=0 then 0 else 3
def keep(e v:Int):Int:=if e=0 then v else 0
def b4c:AK
 | [.agg [.int .u8 t,.int .i64 x,.int .i64 y]]=>some (0<=t/\t<=255,.tup [.agg [.int .u8 (keep (MD t x y) t),.int .i64 (keep (MD t x y) x),.int .i64 (keep (MD t x y) y)],.int .i64 (MD t x y)])
 |_=>none
def c7u:Fam:=⟨Int×Int×Int,λ(t,x,y)=>[.agg [.int .u8 t,.int .i64 x,.int .i64 y]],λ(t,_,_)=>0<=t/\t<=255,λ(t,x,y)=>.tup [.agg [.int .u8 (keep (MD t x y) t),.int .i64 (keep (MD t x y) x),.int .i64 (keep (MD t x y) y)],.int .i64 (MD t x y)]⟩
theorem f0x:PS 53 b4c:=by
 refine con [(17,QU)] (by simpa using Tx) c7u (λ_ _=>none) b4c ?_ ?_ Tryz.func53 Dy Dy Dy ?_
 .intro args pre s h a;unfold b4c at h;split at h
  .rename_i t x y;cases h;exact⟨(t,x,y),by simp[c7u,BT,SV.le2,SV.le1,BM,SV.le0],a,rfl⟩
  .cases h
 .exact By
 .rintro⟨t,x,y⟩ a;replace a:0<=t/\t<=255:=a;refine X0a _ ?_;(repeat' first|constructor|intro h)<;>refine Lm ?_
  all_goals(try exact a)
  all_goals(simp only[Ig,Im]at h)
  all_goals(simp[keep,MD,h])
def c5w:AK
 | [.agg [.int .u8 t,.int .i64 x,.int .i64 y]]=>some (0<=t/\t<=255,.bool (and (decide (DP t x y=0)) (decide (4<=t))))
 |_=>none
def f35:Fam:=⟨Int×Int×Int,λ(t,x,y)=>[.agg [.int .u8 t,.int .i64 x,.int .i64 y]],λ(t,_,_)=>0<=t/\t<=255,λ(t,x,y)=>.bool (and (decide (DP t x y=0)) (decide (4<=t)))⟩
theorem pFlips:PS 45 c5w:=by
 refine con [(17,QU)] (by simpa using Tx) f35 (λ_ _=>none) c5w ?_ ?_ Tryz.func45 Dy Dy Dy ?_
 .intro args pre s h a;unfold c5w at h;split at h
  .rename_i t x y;cases h;exact⟨(t,x,y),by simp[f35,BT,SV.le2,SV.le1,BM,SV.le0],a,rfl⟩
  .cases h
 .exact By
 .rintro⟨t,x,y⟩ a;replace a:0<=t/\t<=255:=a;refine X0a _ ?_;(repeat' first|constructor|intro h)<;>refine Lm ?_
  all_goals(first|exact a|rfl|skip)
def b2x:AK
 | []=>some (True,.agg [.int .u8 0,.int .i64 0,.int .i64 0])
 |_=>none
def d12:Fam:=⟨Unit,λ_=>[],λ_=>True,λ_=>.agg [.int .u8 0,.int .i64 0,.int .i64 0]⟩
theorem d79:PS 72 b2x:=by
 refine con [] Dz d12 (λ_ _=>none) b2x ?_ ?_ Tryz.func72 Dy Dy Dy ?_
 .intro args pre s h a;unfold b2x at h;split at h
  .cases h;exact⟨(),Ja,Ja,rfl⟩
  .cases h
 .intro i;show 0<=_;decide
 .intro i a;refine X0a _ ?_;(repeat' first|constructor|intro h)<;>refine Lm ?_
theorem d8u(k C:Int):FV k C=0\/FV k C=1:=by unfold FV;split<;>simp
def Ob(k:Int):Int:=if k=1 then 4 else if k=2 then 6 else if k=3 then 5 else 7
def Qt(k C:Int):Int:=if k=1 then 2*C else if k=2 then 0 else if k=3 then C else -C
def RY(k C:Int):Int:=if k=1 then 0 else if k=2 then 2*C else C
def d6q:AK
 | [.agg [.int .u8 k,.int .i64 C]]=>some (True,.tup [.agg [.int .u8 (keep (FV k C) (Ob k)),.int .i64 (keep (FV k C) (Qt k C)),.int .i64 (keep (FV k C) (RY k C))],.int .i64 (FV k C)])
 |_=>none
def FMvOf:Fam:=⟨Int×Int,λ(k,C)=>[.agg [.int .u8 k,.int .i64 C]],λ(_,_)=>True,λ(k,C)=>.tup [.agg [.int .u8 (keep (FV k C) (Ob k)),.int .i64 (keep (FV k C) (Qt k C)),.int .i64 (keep (FV k C) (RY k C))],.int .i64 (FV k C)]⟩
theorem pMvOf:PS 55 d6q:=by
 refine con [(86,Wz)] (by simpa using c70) FMvOf (λ_ _=>none) d6q ?_ ?_ Tryz.func55 Dy Dy Dy ?_
 .intro args pre s h a;unfold d6q at h;split at h
  .rename_i k C;cases h;exact⟨(k,C),by simp[FMvOf,BT,SV.le2,SV.le1,BM,SV.le0],a,rfl⟩
  .cases h
 .exact By
 .rintro⟨k,C⟩ a;replace a:True:=a;refine X0a _ ?_;(repeat' first|constructor|intro h)<;>refine Lm ?_
  all_goals(have e:=d8u k C;have e':=@c9v k C)
  all_goals(try simp only[AD])
  all_goals grind[keep,Ob,Qt,RY]
def JP(t x y:Int):Int:=tA t*x+tB t*y
def JT(t x y:Int):Int:=tC t*x+tD t*y
def Gl(t x y u z w:Int):Int:=if DP t x y=0/\DP u z w=0 then MD (cT t u) (JP u x y+z) (JT u x y+w)else 1
def Qf(t x y u z w:Int):Int:=keep (Gl t x y u z w) (cT t u)
def Wa(t x y u z w:Int):Int:=keep (Gl t x y u z w) (JP u x y+z)
def Uv(t x y u z w:Int):Int:=keep (Gl t x y u z w) (JT u x y+w)
theorem c4p{t x y B:Int}(a:0<=t)(b:t<8)(a1: -B<=x)(a2:x<=B)(b1: -B<=y)(b2:y<=B): -(2*B)<=JP t x y/\JP t x y<=2*B/\ -(2*B)<=JT t x y/\JT t x y<=2*B:=by obtain⟨c,d,e,f⟩:=c7k a b;have e1:=SW (x:=x) c;have e2:=SW (x:=y) d;have e3:=SW (x:=x) e;have e4:=SW (x:=y) f;unfold JP JT;omega
def VB:AK
 | [.agg [.int .u8 t,.int .i64 x,.int .i64 y],.agg [.int .u8 u,.int .i64 z,.int .i64 w]]=>some ((0<=t/\t<=255)/\0<=u/\u<=255,.tup [.agg [.int .u8 (Qf t x y u z w),.int .i64 (Wa t x y u z w),.int .i64 (Uv t x y u z w)],.int .i64 (Gl t x y u z w)])
 |_=>none
def FThen:Fam:=⟨Int×Int×Int×Int×Int×Int,λ(t,x,y,u,z,w)=>[.agg [.int .u8 t,.int .i64 x,.int .i64 y],.agg [.int .u8 u,.int .i64 z,.int .i64 w]],λ(t,_,_,u,_,_)=>(0<=t/\t<=255)/\0<=u/\u<=255,λ(t,x,y,u,z,w)=>.tup [.agg [.int .u8 (Qf t x y u z w),.int .i64 (Wa t x y u z w),.int .i64 (Uv t x y u z w)],.int .i64 (Gl t x y u z w)]⟩
theorem f8h : PS 83 VB := by
  refine con [(17, QU), (52, Uw), (120, b47), (54, b9u), (53, b4c)] (by simpa using ⟨Tx, d3z, d7t, f8b, f0x⟩) FThen (λ_ _ => none) VB ?_ ?_ Tryz.func83 Dy Dy Dy ?_
  · intro args pre s h a
    unfold VB at h
    split at h
    · rename_i t x y u z w; cases h; exact ⟨(t, x, y, u, z, w), by simp [FThen, BT, SV.le2, SV.le1, BM, SV.le0], a, rfl⟩
    · cases h
  · exact Bx
  · rintro ⟨t, x, y, u, z, w⟩ a
    replace a : (0 ≤ t ∧ t ≤ 255) ∧ 0 ≤ u ∧ u ≤ 255 := a
    refine AB _ ?_; (repeat' first | constructor | refine Iu λhu => ?_ | intro h)<;>refine Lm ?_
    all_goals (first
      | exact a.1
      | exact λ_ => a.2
      | (have e : Gl t x y u z w = 1 := by grind [Gl]
         simp [Qf, Wa, Uv, keep, e]; done)
      | (rw [Lt] at h
         have f : DP t x y = 0 := by simpa using h.1
         have g : DP u z w = 0 := by simpa using h.2
         have j := TK f
         have d := TK g
         have r := c4p (t := u) (x := x) (y := y) (B := 16384) a.2.1 d.1 Dx Dx Dx Dx
         have c := cT_le a.1.1 j.1 a.2.1 d.1
         have k := c7k a.1.1 j.1
         have b := c7k a.2.1 d.1
         first
         | (constructor <;> omega)
         | exact ⟨b.1, b.2.1, b.2.2.1, b.2.2.2, Dx, Dx, Dx, Dx⟩
         | exact ⟨k, b⟩
         | (change AD .i64 (JP u x y + z); simp only [AD]; omega)
         | (change AD .i64 (JT u x y + w); simp only [AD]; omega)
         | (refine ⟨c.1, ?_⟩; change cT t u ≤ 255; omega)
         | (have e : Gl t x y u z w = MD (cT t u) (JP u x y + z) (JT u x y + w) := by unfold Gl; rw [if_pos ⟨f, g⟩]
            first | exact e.symm | (unfold Qf; rw [e]; rfl) | (unfold Wa; rw [e]; rfl) | (unfold Uv; rw [e]; rfl)))
      | skip)
def Pw(t x y a b:Int):Int:=if DP t x y=0/\LH a b=0 then(if LH (JP t a b+2*x) (JT t a b+2*y)=0 then 0 else 3)else 1
def Nx(t x y a b:Int):Int:=keep (Pw t x y a b) (JP t a b+2*x)
def NW(t x y a b:Int):Int:=keep (Pw t x y a b) (JT t a b+2*y)
def b4p:AK
 | [.agg [.int .u8 t,.int .i64 x,.int .i64 y],.agg [.int .i64 a,.int .i64 b]]=>some (0<=t/\t<=255,.tup [.agg [.int .i64 (Nx t x y a b),.int .i64 (NW t x y a b)],.int .i64 (Pw t x y a b)])
 |_=>none
def c7r:Fam:=⟨Int×Int×Int×Int×Int,λ(t,x,y,a,b)=>[.agg [.int .u8 t,.int .i64 x,.int .i64 y],.agg [.int .i64 a,.int .i64 b]],λ(t,_,_,_,_)=>0<=t/\t<=255,λ(t,x,y,a,b)=>.tup [.agg [.int .i64 (Nx t x y a b),.int .i64 (NW t x y a b)],.int .i64 (Pw t x y a b)]⟩
theorem f08 : PS 197 b4p := by
  refine con [(17, QU), (52, Uw), (233, b49)] (by simpa using ⟨Tx, d3z, f2f⟩) c7r (λ_ _ => none) b4p ?_ ?_ Tryz.func197 Dy Dy Dy ?_
  · intro args pre s h c
    unfold b4p at h
    split at h
    · rename_i t x y a b; cases h; exact ⟨(t, x, y, a, b), by simp [c7r, BT, SV.le2, SV.le1, BM, SV.le0], c, rfl⟩
    · cases h
  · exact Bx
  · rintro ⟨t, x, y, a, b⟩ c
    replace c : 0 ≤ t ∧ t ≤ 255 := c
    refine AB _ ?_; (repeat' first | constructor | refine Iu λhu => ?_ | intro h)<;>refine Lm ?_
    all_goals (first
      | exact c
      | (have e : Pw t x y a b = 1 := by grind [Pw]
         simp [Nx, NW, keep, e]; done)
      | (have f : (!decide (DP t x y = 0) || !decide (LH a b = 0)) = false := by assumption
         rw [Lt] at f
         have g : DP t x y = 0 := by simpa using f.1
         have j : LH a b = 0 := by simpa using f.2
         have k := TK g
         have m2 := d0d j
         have r := c4p (t := t) (x := a) (y := b) (B := 65536) c.1 k.1 Dx Dx Dx Dx
         have d := c7k c.1 k.1
         first
         | (constructor <;> omega)
         | exact ⟨d.1, d.2.1, d.2.2.1, d.2.2.2, Dx, Dx, Dx, Dx⟩
         | (change AD .i64 (JP t a b + 2 * x); simp only [AD]; omega)
         | (change AD .i64 (JT t a b + 2 * y); simp only [AD]; omega)
         | exact A4
         | (have e : Pw t x y a b = (if LH (JP t a b + 2 * x) (JT t a b + 2 * y) = 0 then 0 else 3) := by unfold Pw; rw [if_pos ⟨g, j⟩]
            first
            | (have q : LH (JP t a b + 2 * x) (JT t a b + 2 * y) = 0 := by (change (!decide (LH (JP t a b + 2 * x) (JT t a b + 2 * y) = 0)) = false at h; simpa using h)
               rw [J7 q] at e
               simp only [Nx, NW, keep, e, Kp]; try rfl)
            | (have q : ¬ LH (JP t a b + 2 * x) (JT t a b + 2 * y) = 0 := by (change (!decide (LH (JP t a b + 2 * x) (JT t a b + 2 * y) = 0)) = true at h; simpa using h)
               rw [J8 q] at e
               simp [Nx, NW, keep, e]; done)))
      | skip)
def AP(W H:Int):Int:=if 1<=W/\1<=H/\W<=256/\H<=256/\W*H<=256 then 0 else 1
theorem c2x{W H:Int}(c:1<=W)(d:1<=H)(e:W<=256)(f:H<=256):1<=W*H/\W*H<=65536:=by have a:1*1<=W*H:=Int.mul_le_mul c d Dx Dx;have b:W*H<=256*256:=Int.mul_le_mul e f Dx Dx;omega
def Pu:AK
 | [.agg [.int .i64 W,.int .i64 H]]=>some (True,.int .i64 (AP W H))
 |_=>none
def b3s:Fam:=⟨Int×Int,λ(W,H)=>[.agg [.int .i64 W,.int .i64 H]],λ_=>True,λ(W,H)=>.int .i64 (AP W H)⟩
theorem TY:PS 96 Pu:=by
 refine con [] Dz b3s (λ_ _=>none) Pu ?_ ?_ Tryz.func96 Dy Dy Dy ?_
 .intro args pre s h hp;unfold Pu at h;split at h
  .rename_i W H;cases h;exact⟨(W,H),by simp[b3s,BT,SV.le2,SV.le1,BM,SV.le0],Ja,rfl⟩
  .cases h
 .exact By
 .rintro⟨W,H⟩-;refine X0a _ ?_;(repeat' first|constructor|intro h)<;>refine Lm ?_
  .intro h;simp at h;have:=c2x (W:=W) (H:=H) Dx Dx Dx Dx;simp only[AD];omega
  .simp[AP]at h⊢;omega
  .simp[AP]at h⊢;omega
def SO(W H i:Int):Bool:=decide (0<=i)&&decide (i<4*W*H)
def kHas:AK
 | [.agg [.int .i64 W,.int .i64 H],.int .i64 i]=>some (AP W H=0,.bool (SO W H i))
 |_=>none
def FHas:Fam:=⟨Int×Int×Int,λ(W,H,i)=>[.agg [.int .i64 W,.int .i64 H],.int .i64 i],λ(W,H,_)=>AP W H=0,λ(W,H,i)=>.bool (SO W H i)⟩
theorem QP{W H:Int}(h:AP W H=0):1<=W/\1<=H/\W<=256/\H<=256/\1<=W*H/\W*H<=256/\4*W*H=4*(W*H):=by
 unfold AP at h;split at h
 .rename_i e;obtain⟨a,b,c,d,f⟩:=e;have:=c2x a b c d;exact⟨a,b,c,d,this.1,f,M0 _ _ _⟩
 .cases h
theorem pHas:PS 163 kHas:=by
 refine con [] Dz FHas (λ_ _=>none) kHas ?_ ?_ Tryz.func163 Dy Dy Dy ?_
 .intro args pre s h a;unfold kHas at h;split at h
  .rename_i W H i;cases h;exact⟨(W,H,i),by simp[FHas,BT,SV.le2,SV.le1,BM,SV.le0],a,rfl⟩
  .cases h
 .exact Bx
 .rintro⟨W,H,i⟩ a;obtain⟨h1,h2,h3,h4,h5,h6,h7⟩:=QP a;refine X0a _ ?_;(repeat' first|constructor|intro h)<;>refine Lm ?_
  .intro _;simp only[AD];omega
  .intro _;simp only[AD];omega
  all_goals rfl
def YF:AK
 | [.agg [.int .i64 W,.int .i64 _],.int .i64 i]=>some (1<=W/\W<=256/\0<=i/\i<=1024,.agg [.int .i64 (i/4%W),.int .i64 (i/4/W),.int .u8 (i%4)])
 |_=>none
def FCell:Fam:=⟨Int×Int×Int,λ(W,H,i)=>[.agg [.int .i64 W,.int .i64 H],.int .i64 i],λ(W,_,i)=>1<=W/\W<=256/\0<=i/\i<=1024,λ(W,_,i)=>.agg [.int .i64 (i/4%W),.int .i64 (i/4/W),.int .u8 (i%4)]⟩
theorem pCell:PS 164 YF:=by
 refine con [] Dz FCell (λ_ _=>none) YF ?_ ?_ Tryz.func164 Dy Dy Dy ?_
 .intro args pre s h b;unfold YF at h;split at h
  .rename_i W H i;cases h;exact⟨(W,H,i),by simp[FCell,BT,SV.le2,SV.le1,BM,SV.le0],b,rfl⟩
  .cases h
 .exact Bx
 .rintro⟨W,H,i⟩ ⟨h1,h2,a,h4⟩;have c:i.tdiv 4=i/4:=Lp a;have d:i.tmod 4=i%4:=Jy a;have e:(i/4).tdiv W=i/4/W:=Lp Dx;have f:(i/4).tmod W=i/4%W:=Jy Dx;have a5:i/4/W<=i/4:=Int.ediv_le_self _ Dx;have a6:0<=i/4/W:=Int.ediv_nonneg Dx Dx;refine X0a _ ?_;(repeat' first|constructor|intro h)<;>refine Lm ?_
  all_goals(try simp only[c,d,e,f])
  all_goals(try simp only[AD])
  all_goals omega
def EC(X Y Q:Int):Int:=if -4096<=X/\X<=4096/\ -4096<=Y/\Y<=4096/\Q<=3 then 0 else 1
def Qm:AK
 | [.agg [.int .i64 X,.int .i64 Y,.int .u8 Q]]=>some (True,.int .i64 (EC X Y Q))
 |_=>none
def b50:Fam:=⟨Int×Int×Int,λ(X,Y,Q)=>[.agg [.int .i64 X,.int .i64 Y,.int .u8 Q]],λ_=>True,λ(X,Y,Q)=>.int .i64 (EC X Y Q)⟩
theorem Uk:PS 123 Qm:=by
 refine con [] Dz b50 (λ_ _=>none) Qm ?_ ?_ Tryz.func123 Dy Dy Dy ?_
 .intro args pre s h hp;unfold Qm at h;split at h
  .rename_i X Y Q;cases h;exact⟨(X,Y,Q),by simp[b50,BT,SV.le2,SV.le1,BM,SV.le0],Ja,rfl⟩
  .cases h
 .exact By
 .rintro⟨X,Y,Q⟩-;refine X0a _ ?_;(repeat' first|constructor|intro h)<;>refine Lm ?_
  .simp[EC]at h⊢;omega
  .simp[EC]at h⊢;omega
theorem TB{X Y Q:Int}(h:EC X Y Q=0): -4096<=X/\X<=4096/\ -4096<=Y/\Y<=4096/\Q<=3:=by
 unfold EC at h;split at h
 .assumption
 .cases h
def KO(W H i:Int):Int:=if AP W H=0 then if SO W H i=true then 0 else 7 else 1
def BW(W H i:Int):Int:=if KO W H i=0 then i/4%W else 0
def BX(W H i:Int):Int:=if KO W H i=0 then i/4/W else 0
def BZ(W H i:Int):Int:=if KO W H i=0 then i%4 else 0
theorem b4f(W H:Int):AP W H=0\/AP W H=1:=by unfold AP;split<;>simp
def Va:AK
 | [.agg [.int .i64 W,.int .i64 H],.int .i64 i]=>some (True,.tup [.agg [.int .i64 (BW W H i),.int .i64 (BX W H i),.int .u8 (BZ W H i)],.int .i64 (KO W H i)])
 |_=>none
def b5k:Fam:=⟨Int×Int×Int,λ(W,H,i)=>[.agg [.int .i64 W,.int .i64 H],.int .i64 i],λ_=>True,λ(W,H,i)=>.tup [.agg [.int .i64 (BW W H i),.int .i64 (BX W H i),.int .u8 (BZ W H i)],.int .i64 (KO W H i)]⟩
theorem b28:PS 118 Va:=by
 refine con [(96,Pu),(163,kHas),(164,YF)] (by simpa using⟨TY,pHas,pCell⟩) b5k (λ_ _=>none) Va ?_ ?_ Tryz.func118 Dy Dy Dy ?_
 .intro args pre s h hp;unfold Va at h;split at h
  .rename_i W H i;cases h;exact⟨(W,H,i),by simp[b5k,BT,SV.le2,SV.le1,BM,SV.le0],Ja,rfl⟩
  .cases h
 .exact Bx
 .rintro⟨W,H,i⟩-;refine X0a _ ?_;(repeat' first|constructor|intro h)<;>refine Lm ?_
  all_goals(try simp only[BW,BX,BZ,KO])
  all_goals(try simp at h)
  all_goals(first|(simp[h];done)|skip)
  all_goals(try(rename_i a;simp at a;simp[h,a];done))
  .rw[J8 h];exact(b4f W H).resolve_left h
  .rename_i a;simp at a;obtain⟨h1,h2,h3,h4,h5,h6,h7⟩:=QP a;simp[SO]at h;omega
def EI(Q e:Int):Int:=[tb [0,1,0,-1] Q.toNat,tb [0,0,0,0] Q.toNat,tb [0,0,0,0] Q.toNat].getD e.toNat 0
def EK(Q e:Int):Int:=[tb [-1,0,1,0] Q.toNat,tb [0,0,0,0] Q.toNat,tb [0,0,0,0] Q.toNat].getD e.toNat 0
def EM(Q e:Int):Int:=[tb [2,3,0,1] Q.toNat,tb [1,0,3,2] Q.toNat,tb [3,2,1,0] Q.toNat].getD e.toNat 0
def GC(X Y Q e:Int):Int:=if EC X Y Q=0/\e<=2 then(if EC (EI Q e+X) (EK Q e+Y) (EM Q e)=0 then 0 else 3)else 1
def JE(X Y Q e:Int):Int:=if GC X Y Q e=0 then EI Q e+X else 0
def JG(X Y Q e:Int):Int:=if GC X Y Q e=0 then EK Q e+Y else 0
def Ho(X Y Q e:Int):Int:=if GC X Y Q e=0 then EM Q e else 0
theorem f5q{Q e:Int}(a:0<=Q)(h2:Q<=3)(b:0<=e)(h4:e<=2): -1<=EI Q e/\EI Q e<=1/\ -1<=EK Q e/\EK Q e<=1/\0<=EM Q e/\EM Q e<=3:=by have:∀q:Nat,q<4->∀e:Nat,e<3-> -1<=EI q e/\EI q e<=1/\ -1<=EK q e/\EK q e<=1/\0<=EM q e/\EM q e<=3:=E1;have:=this Q.toNat Dx e.toNat Dx;rwa[Mp a,Mp b]at this
def Vn:AK
 | [.agg [.int .i64 X,.int .i64 Y,.int .u8 Q],.int .u8 e]=>some (0<=Q/\0<=e,.tup [.agg [.int .i64 (JE X Y Q e),.int .i64 (JG X Y Q e),.int .u8 (Ho X Y Q e)],.int .i64 (GC X Y Q e)])
 |_=>none
def b19:Fam:=⟨Int×Int×Int×Int,λ(X,Y,Q,e)=>[.agg [.int .i64 X,.int .i64 Y,.int .u8 Q],.int .u8 e],λ(_,_,Q,e)=>0<=Q/\0<=e,
 λ(X,Y,Q,e)=>.tup [.agg [.int .i64 (JE X Y Q e),.int .i64 (JG X Y Q e),.int .u8 (Ho X Y Q e)],.int .i64 (GC X Y Q e)]⟩
theorem b05:PS 129 Vn:=by
 refine con [(123,Qm)] (by simpa using Uk) b19 (λ_ _=>none) Vn ?_ ?_ Tryz.func129 Dy Dy Dy ?_
 .intro args pre s h f;unfold Vn at h;split at h
  .rename_i X Y Q e;cases h;exact⟨(X,Y,Q,e),by simp[b19,BT,SV.le2,SV.le1,BM,SV.le0],f,rfl⟩
  .cases h
 .exact Bx
 .rintro⟨X,Y,Q,e⟩ ⟨c,d⟩;refine X0a _ ?_;(repeat' first|constructor|intro h)<;>refine Lm ?_
  all_goals(try simp only[JE,JG,Ho])
  all_goals(try(have a:GC X Y Q e=1:=by simp[GC];simp at h;omega);simp[a];done)
  .simp at h;have:=TB h.1;omega
  .simp at h;omega
  all_goals(try(change AD .i64 (EI Q e+X);simp at h;have:=TB h.1;have n:=f5q c Dx d Dx;simp only[AD];omega))
  all_goals(try(change AD .i64 (EK Q e+Y);simp at h;have:=TB h.1;have n:=f5q c Dx d Dx;simp only[AD];omega))
  all_goals(rename_i b;simp at b)
  all_goals(change (!decide (EC (EI Q e+X) (EK Q e+Y) (EM Q e)=0))=_ at h;simp at h)
  all_goals(try(have a:GC X Y Q e=3:=by simp[GC,b,h]);simp[a];done)
  all_goals(have a:GC X Y Q e=0:=by simp[GC,b,h])
  all_goals(simp only[a,Kp])
  .rfl
  .rfl
  .rfl
def LQ(W H X Y Q:Int):Int:=if AP W H=0 then(if EC X Y Q=0/\0<=X/\X<W/\0<=Y/\Y<H then 0 else 7)else 1
def QO(W H X Y Q:Int):Int:=if LQ W H X Y Q=0 then 4*(Y*W+X)+Q else 0
def kId:AK
 | [.agg [.int .i64 W,.int .i64 H],.agg [.int .i64 X,.int .i64 Y,.int .u8 Q]]=>some (0<=Q,.tup [.int .i64 (QO W H X Y Q),.int .i64 (LQ W H X Y Q)])
 |_=>none
def FId:Fam:=⟨Int×Int×Int×Int×Int,λ(W,H,X,Y,Q)=>[.agg [.int .i64 W,.int .i64 H],.agg [.int .i64 X,.int .i64 Y,.int .u8 Q]],λ(_,_,_,_,Q)=>0<=Q,
 λ(W,H,X,Y,Q)=>.tup [.int .i64 (QO W H X Y Q),.int .i64 (LQ W H X Y Q)]⟩
theorem f8d{W H X Y:Int}(h:AP W H=0)(_:0<=X)(h2:X<W)(a:0<=Y)(h4:Y<H):0<=Y*W/\Y*W+X<W*H/\W*H<=256:=by
 obtain⟨a1,a2,a3,a4,a5,a6,a7⟩:=QP h;have b:Y*W<=(H-1)*W:=Int.mul_le_mul_of_nonneg_right Dx Dx;have c:(H-1)*W=W*H-W:=by rw[Int.sub_mul,Int.one_mul,Int.mul_comm]
 have d:0<=Y*W:=Int.mul_nonneg a Dx;omega
theorem pId:PS 149 kId:=by
 refine con [(96,Pu),(123,Qm)] (by simpa using⟨TY,Uk⟩) FId (λ_ _=>none) kId ?_ ?_ Tryz.func149 Dy Dy Dy ?_
 .intro args pre s h f;unfold kId at h;split at h
  .rename_i W H X Y Q;cases h;exact⟨(W,H,X,Y,Q),by simp[FId,BT,SV.le2,SV.le1,BM,SV.le0],f,rfl⟩
  .cases h
 .exact Bx
 .rintro⟨W,H,X,Y,Q⟩ e;replace e:0<=Q:=e;refine X0a _ ?_;(repeat' first|constructor|intro h)<;>refine Lm ?_
  all_goals(try(have a:LQ W H X Y Q=1:=by(simp at h;simp[LQ,h]));rw[QO,a];rfl)
  .simp at h;rw[LQ,J8 h];exact(b4f W H).resolve_left h
  all_goals(try((have a:LQ W H X Y Q=7:=by(rename_i d;simp at d;simp at h;rw[LQ,J7 d,J8];omega));first|exact a.symm|(rw[QO,a];rfl)))
  all_goals(rename_i d;simp at d;simp at h)
  all_goals(have b:=f8d (X:=X) (Y:=Y) d Dx Dx Dx Dx;have c:=TB h.1.1.1.1)
  all_goals(try(simp only[AD];omega))
  all_goals(have a:LQ W H X Y Q=0:=by rw[LQ,J7 d,J7];omega)
  .rw[QO,a];rfl
  .exact a.symm
def AU(W H i e:Int):Int:=if KO W H i=0 then(if GC (BW W H i) (BX W H i) (BZ W H i) e=0 then LQ W H (JE (BW W H i) (BX W H i) (BZ W H i) e) (JG (BW W H i) (BX W H i) (BZ W H i) e) (Ho (BW W H i) (BX W H i) (BZ W H i) e)else 1)else KO W H i
def AF(W H i e:Int):Int:=if KO W H i=0 then(if GC (BW W H i) (BX W H i) (BZ W H i) e=0 then QO W H (JE (BW W H i) (BX W H i) (BZ W H i) e) (JG (BW W H i) (BX W H i) (BZ W H i) e) (Ho (BW W H i) (BX W H i) (BZ W H i) e)else 0)else 0
theorem TL(W H i:Int):0<=BZ W H i/\BZ W H i<=3:=by unfold BZ;split<;>omega
theorem d2p{X Y Q e:Int}(b:0<=Q)(c:0<=e):0<=Ho X Y Q e/\Ho X Y Q e<=3:=by
 unfold Ho;split
 .rename_i h;unfold GC at h;split at h
  .rename_i a;have:=TB a.1;have:=f5q b Dx c a.2;omega
  .cases h
 .omega
def Tu:AK
 | [.agg [.int .i64 W,.int .i64 H],.int .i64 i,.int .u8 e]=>some (0<=e,.tup [.int .i64 (AF W H i e),.int .i64 (AU W H i e)])
 |_=>none
def b78:Fam:=⟨Int×Int×Int×Int,λ(W,H,i,e)=>[.agg [.int .i64 W,.int .i64 H],.int .i64 i,.int .u8 e],λ(_,_,_,e)=>0<=e,
 λ(W,H,i,e)=>.tup [.int .i64 (AF W H i e),.int .i64 (AU W H i e)]⟩
theorem b1g:PS 110 Tu:=by
 refine con [(118,Va),(129,Vn),(149,kId)] (by simpa using⟨b28,b05,pId⟩) b78 (λ_ _=>none) Tu ?_ ?_ Tryz.func110 Dy Dy Dy ?_
 .intro args pre s h b;unfold Tu at h;split at h
  .rename_i W H i e;cases h;exact⟨(W,H,i,e),by simp[b78,BT,SV.le2,SV.le1,BM,SV.le0],b,rfl⟩
  .cases h
 .exact Bz
 .rintro⟨W,H,i,e⟩ a;replace a:0<=e:=a;refine X0a _ ?_;(repeat' first|constructor|intro h)<;>refine Lm ?_
  all_goals(try exact a)
  all_goals(try exact(TL W H i).1)
  all_goals(try exact⟨(TL W H i).1,a⟩)
  all_goals(try exact(d2p (TL W H i).1 a).1)
  all_goals(simp at h;(try rename_i c;simp at c);simp[AU,AF, *])
def c0r:AK
 | [.agg [.int .i64 X,.int .i64 Y,.int .u8 _]]=>some (-5000<=X/\X<=5000/\ -5000<=Y/\Y<=5000,.agg [.int .i64 (2*X+1),.int .i64 (2*Y+1)])
 |_=>none
def d59:Fam:=⟨Int×Int×Int,λ(X,Y,Q)=>[.agg [.int .i64 X,.int .i64 Y,.int .u8 Q]],λ(X,Y,_)=> -5000<=X/\X<=5000/\ -5000<=Y/\Y<=5000,λ(X,Y,_)=>.agg [.int .i64 (2*X+1),.int .i64 (2*Y+1)]⟩
theorem g0z:PS 196 c0r:=by
 refine con [] Dz d59 (λ_ _=>none) c0r ?_ ?_ Tryz.func196 Dy Dy Dy ?_
 .intro args pre s h a;unfold c0r at h;split at h
  .rename_i X Y Q;cases h;exact⟨(X,Y,Q),by simp[d59,BT,SV.le2,SV.le1,BM,SV.le0],a,rfl⟩
  .cases h
 .exact By
 .rintro⟨X,Y,Q⟩ a;replace a: -5000<=X/\X<=5000/\ -5000<=Y/\Y<=5000:=a;exact X0f
def o1(Q:Int):Int:=tb [0,2,2,0] Q.toNat
def o2(Q:Int):Int:=tb [2,2,0,0] Q.toNat
def CY(a b:Int):Int:=if a<b then -1 else if a>b then 1 else 0
def kNaN:AK
 | [.int .i64 _]=>some (True,.bool false)
 |_=>none
def FNaN:Fam:=⟨Int,λa=>[.int .i64 a],λ_=>True,λ_=>.bool false⟩
theorem pNaN:PS 153 kNaN:=by
 refine con [] Dz FNaN (λ_ _=>none) kNaN ?_ ?_ Tryz.func153 Dy Dy Dy ?_
 .intro args pre s h b;unfold kNaN at h;split at h
  .rename_i a;cases h;exact⟨a,by simp[FNaN,BT,SV.le2,SV.le1,SV.le0],b,rfl⟩
  .cases h
 .exact By
 .intro(a:Int) b;replace b:True:=b;refine X0a _ ?_;(repeat' first|constructor|intro h)<;>refine Lm ?_
  all_goals simp
def f1w:AK
 | [.int .u8 _]=>some (True,.bool false)
 |_=>none
def FNaN8:Fam:=⟨Int,λa=>[.int .u8 a],λ_=>True,λ_=>.bool false⟩
theorem pNaN8:PS 191 f1w:=by
 refine con [] Dz FNaN8 (λ_ _=>none) f1w ?_ ?_ Tryz.func191 Dy Dy Dy ?_
 .intro args pre s h b;unfold f1w at h;split at h
  .rename_i a;cases h;exact⟨a,by simp[FNaN8,BT,SV.le2,SV.le1,SV.le0],b,rfl⟩
  .cases h
 .exact By
 .intro(a:Int) b;replace b:True:=b;refine X0a _ ?_;(repeat' first|constructor|intro h)<;>refine Lm ?_
  all_goals simp
def Td:AK
 | [.int .i64 a,.int .i64 b]=>some (True,.int .i64 (CY a b))
 |_=>none
def FCmp:Fam:=⟨Int×Int,λ(a,b)=>[.int .i64 a,.int .i64 b],λ(_,_)=>True,λ(a,b)=>.int .i64 (CY a b)⟩
theorem pCmp:PS 115 Td:=by
 refine con [(153,kNaN)] (by simpa using pNaN) FCmp (λ_ _=>none) Td ?_ ?_ Tryz.func115 Dy Dy Dy ?_
 .intro args pre s h c;unfold Td at h;split at h
  .rename_i a b;cases h;exact⟨(a,b),by simp[FCmp,BT,SV.le2,SV.le1,SV.le0],c,rfl⟩
  .cases h
 .exact Bx
 .rintro⟨a,b⟩ c;replace c:True:=c;refine X0a _ ?_;(repeat' first|constructor|intro h)<;>refine Lm ?_
  all_goals(first|(simp at h;done)|(rename_i d;simp at d;done)|(simp at h;(try rename_i d;simp at d);simp[CY, *]<;>omega))
def f07:AK
 | [.int .u8 a,.int .u8 b]=>some (True,.int .i64 (CY a b))
 |_=>none
def FCmp8:Fam:=⟨Int×Int,λ(a,b)=>[.int .u8 a,.int .u8 b],λ(_,_)=>True,λ(a,b)=>.int .i64 (CY a b)⟩
theorem pCmp8:PS 143 f07:=by
 refine con [(191,f1w)] (by simpa using pNaN8) FCmp8 (λ_ _=>none) f07 ?_ ?_ Tryz.func143 Dy Dy Dy ?_
 .intro args pre s h c;unfold f07 at h;split at h
  .rename_i a b;cases h;exact⟨(a,b),by simp[FCmp8,BT,SV.le2,SV.le1,SV.le0],c,rfl⟩
  .cases h
 .exact Bx
 .rintro⟨a,b⟩ c;replace c:True:=c;refine X0a _ ?_;(repeat' first|constructor|intro h)<;>refine Lm ?_
  all_goals(first|(simp at h;done)|(rename_i d;simp at d;done)|(simp at h;(try rename_i d;simp at d);simp[CY, *]<;>omega))
def Hl(Q:Int):Int:=tb [2,1,2,1] Q.toNat
def JU(Q:Int):Int:=tb [0,1,1,0] Q.toNat
theorem lq_le{Q:Int}(a:0<=Q)(h1:Q<=3):(Hl Q=1\/Hl Q=2)/\0<=JU Q/\JU Q<=1:=by have:∀q:Nat,q<4->(Hl q=1\/Hl q=2)/\0<=JU q/\JU q<=1:=E1;have:=this Q.toNat Dx;rwa[Mp a]at this
def DB(Q e:Int):Int:=if e=1 then 3 else if e=2 then 4 else Hl Q
def DF(X Y Q e:Int):Int:=if e=1 then X+Y+1 else if e=2 then Y-X else if Hl Q=2 then Y+JU Q else X+JU Q
def RF(X Y Q e:Int):Int:=if EC X Y Q=0/\e<=2 then(if FV (DB Q e) (DF X Y Q e)=0 then 0 else 3)else 1
def b2f:AK
 | [.agg [.int .i64 X,.int .i64 Y,.int .u8 Q],.int .u8 e]=>some (0<=Q/\0<=e,.tup [.agg [.int .u8 (keep (RF X Y Q e) (DB Q e)),.int .i64 (keep (RF X Y Q e) (DF X Y Q e))],.int .i64 (RF X Y Q e)])
 |_=>none
def c2e:Fam:=⟨Int×Int×Int×Int,λ(X,Y,Q,e)=>[.agg [.int .i64 X,.int .i64 Y,.int .u8 Q],.int .u8 e],λ(_,_,Q,e)=>0<=Q/\0<=e,λ(X,Y,Q,e)=>.tup [.agg [.int .u8 (keep (RF X Y Q e) (DB Q e)),.int .i64 (keep (RF X Y Q e) (DF X Y Q e))],.int .i64 (RF X Y Q e)]⟩
theorem d26:PS 195 b2f:=by
 refine con [(123,Qm),(86,Wz)] (by simpa using⟨Uk,c70⟩) c2e (λ_ _=>none) b2f ?_ ?_ Tryz.func195 Dy Dy Dy ?_
 .intro args pre s h a;unfold b2f at h;split at h
  .rename_i X Y Q e;cases h;exact⟨(X,Y,Q,e),by simp[c2e,BT,SV.le2,SV.le1,BM,SV.le0],a,rfl⟩
  .cases h
 .exact Bx
 .rintro⟨X,Y,Q,e⟩ a;replace a:0<=Q/\0<=e:=a;refine X0a _ ?_;(repeat' first|constructor|intro h)<;>refine Lm ?_
  all_goals(have c1:=@TB X Y Q;have o:=@lq_le Q a.1)
  all_goals(try simp only[AD])
  all_goals(simp only[Hl,JU]at o)
  all_goals grind[RF,DB,DF,keep,Hl,JU]
def RX(a b c d e f:Int):Int:=if CY a b=0 then(if CY c d=0 then CY e f else CY c d)else CY a b
def f36(a b c d e f:Int)(i:Nat):List SV:=[.int .i64 (tb [a,c,e] i),.int .i64 (tb [b,d,f] i)]
def kOrd:AK
 | [.sl 2 3 g _]=>match g 0,g 1,g 2 with
   | [.int .i64 a,.int .i64 b],[.int .i64 c,.int .i64 d],[.int .i64 e,.int .i64 f]=>some (True,.int .i64 (RX a b c d e f))
   |_,_,_=>none
 |_=>none
def FOrd:Fam:=⟨Int×Int×Int×Int×Int×Int,λ(a,b,c,d,e,f)=>[.sl 2 3 (f36 a b c d e f) none],λ_=>True,λ(a,b,c,d,e,f)=>.int .i64 (RX a b c d e f)⟩
def IOrd(a b c d e f:Int):Nat->Option Inv
 |2=>some {β:=Nat,ok:=λi=>i<=3/\∀j,j<i->CY (tb [a,c,e] j) (tb [b,d,f] j)=0,st:=λi=>⟨[⟨8,none,.int .i64 i⟩,⟨7,none,.int .i64 3⟩,⟨6,none,.sl 2 3 (f36 a b c d e f) none⟩,⟨2,none,.int .i64 0⟩],[]⟩,μ:=λi=>3-i}
 |_=>none
theorem pOrd:PS 135 kOrd:=by
 refine con [(115,Td)] (by simpa using pCmp) FOrd (λ(a,b,c,d,e,f)=>IOrd a b c d e f) kOrd ?_ ?_ Tryz.func135 Dy Dy Dy ?_
 .intro args pre s h hp;unfold kOrd at h;split at h
  .split at h
   .rename_i g cp _ _ _ a b c d e f o r w;cases h;refine⟨(a,b,c,d,e,f),?_,Ja,rfl⟩;simp only[FOrd,BT,SV.le2,SV.le1,SV.le0,HQ,and_true,Nt,Kp];refine RQ ?_;intro i l;match i,l with
    |0,_=>exact o
    |1,_=>exact r
    |2,_=>exact w
   .cases h
  .cases h
 .exact By
 .rintro⟨a,b,c,d,e,f⟩-;refine X0a _ ?_;(repeat' first|constructor|intro h)<;>refine Lm ?_
  refine⟨(0:Nat),⟨Dx,λj x=>Dx⟩,?_,?_⟩
  .refine X0a _ ?_;(repeat' first|constructor|intro h)<;>refine Lm ?_
   all_goals first|exact A6
  .intro i l;obtain⟨f7,k⟩:=l;refine X0a _ ?_;(repeat' first|constructor|intro h)<;>refine Lm ?_
   all_goals(first
    |decide
    |exact⟨Dx,by grind⟩
    |(simp only[AD];grind)
    |(have n:i<3:=by grind
      have q:CY (tb [a,c,e] i) (tb [b,d,f] i)=0:=E4;refine⟨i+1,⟨Dx,λj x=> ?_⟩,Dx,?_⟩
      .by_cases e:j=i
       .subst e;exact q
       .exact k j Dx)
    |(have n:i<3:=by grind
      have q:¬CY (tb [a,c,e] i) (tb [b,d,f] i)=0:=E4;have:i=0\/i=1\/i=2:=Dx;rcases this with rfl|rfl|rfl
      .simp[tb]at q;simp[RX,q,tb]
      .have:=k 0 Dx;simp[tb]at q this;simp[RX,q,tb,this]
      .have:=k 0 Dx;have t:=k 1 Dx;simp[tb]at q this t;simp[RX,tb,this,t])
    |(have n:i=3:=by grind
      subst n;have u:=k 0 Dx;have t:=k 1 Dx;have v:=k 2 Dx;simp[tb]at u t v;simp[RX,u,t,v])
    |skip)
   all_goals exact X0g
def FQ(X Y Q U V R:Int):Int:=RX Y V X U Q R
def Ro:AK
 | [.agg [.int .i64 X,.int .i64 Y,.int .u8 Q],.agg [.int .i64 U,.int .i64 V,.int .u8 R]]=>some (AD .u8 Q/\AD .u8 R,.int .i64 (FQ X Y Q U V R))
 |_=>none
def b3q:Fam:=⟨Int×Int×Int×Int×Int×Int,λ(X,Y,Q,U,V,R)=>[.agg [.int .i64 X,.int .i64 Y,.int .u8 Q],.agg [.int .i64 U,.int .i64 V,.int .u8 R]],λ(_,_,Q,_,_,R)=>AD .u8 Q/\AD .u8 R,λ(X,Y,Q,U,V,R)=>.int .i64 (FQ X Y Q U V R)⟩
theorem b11:PS 100 Ro:=by
 refine con [(135,kOrd)] (by simpa using pOrd) b3q (λ_ _=>none) Ro ?_ ?_ Tryz.func100 Dy Dy Dy ?_
 .intro args pre s h a;unfold Ro at h;split at h
  .rename_i X Y Q U V R;cases h;exact⟨(X,Y,Q,U,V,R),by simp[b3q,BT,SV.le2,SV.le1,BM,SV.le0],a,rfl⟩
  .cases h
 .exact Bx
 .rintro⟨X,Y,Q,U,V,R⟩ a;replace a:AD .u8 Q/\AD .u8 R:=a;refine X0a _ ?_;(repeat' first|constructor|intro h)<;>refine Lm ?_
  all_goals(first|rfl|(simp only[AD]at*;omega))
def EA(W H i e:Int):Int:=if AU W H i e=0 then min i (AF W H i e)else 0
def ET(W H i e:Int):Int:=if AU W H i e=0 then e else 0
def Sy:AK
 | [.agg [.int .i64 W,.int .i64 H],.int .i64 i,.int .u8 e]=>some (0<=e,.tup [.agg [.int .i64 (EA W H i e),.int .u8 (ET W H i e)],.int .i64 (AU W H i e)])
 |_=>none
def FName:Fam:=⟨Int×Int×Int×Int,λ(W,H,i,e)=>[.agg [.int .i64 W,.int .i64 H],.int .i64 i,.int .u8 e],λ(_,_,_,e)=>0<=e,λ(W,H,i,e)=>.tup [.agg [.int .i64 (EA W H i e),.int .u8 (ET W H i e)],.int .i64 (AU W H i e)]⟩
theorem d97:PS 157 Sy:=by
 refine con [(110,Tu)] (by simpa using b1g) FName (λ_ _=>none) Sy ?_ ?_ Tryz.func157 Dy Dy Dy ?_
 .intro args pre s h a;unfold Sy at h;split at h
  .rename_i W H i e;cases h;exact⟨(W,H,i,e),by simp[FName,BT,SV.le2,SV.le1,BM,SV.le0],a,rfl⟩
  .cases h
 .exact Bz
 .rintro⟨W,H,i,e⟩ a;replace a:0<=e:=a;refine X0a _ ?_;(repeat' first|constructor|intro h)<;>refine Lm ?_
  all_goals(try exact a)
  all_goals(simp at h;simp[EA,ET,h])
def Ye:AK
 | [.agg [.int .i64 a,.int .u8 b,.int .u8 _]]=>some (True,.agg [.int .i64 a,.int .u8 b])
 |_=>none
def FUnit:Fam:=⟨Int×Int×Int,λ(a,b,c)=>[.agg [.int .i64 a,.int .u8 b,.int .u8 c]],λ(_,_,_)=>True,λ(a,b,_)=>.agg [.int .i64 a,.int .u8 b]⟩
theorem pUnit:PS 158 Ye:=by
 refine con [] Dz FUnit (λ_ _=>none) Ye ?_ ?_ Tryz.func158 Dy Dy Dy ?_
 .intro args pre s h d;unfold Ye at h;split at h
  .rename_i a b c;cases h;exact⟨(a,b,c),by simp[FUnit,BT,SV.le2,SV.le1,BM,SV.le0],d,rfl⟩
  .cases h
 .exact By
 .rintro⟨a,b,c⟩ d;replace d:True:=d;refine X0a _ ?_;(repeat' first|constructor|intro h)<;>refine Lm ?_
def Io(a b c d:Int):Int:=if a=c then b-d else a-c
def Wm:AK
 | [.agg [.int .i64 a,.int .u8 b],.agg [.int .i64 c,.int .u8 d]]=>some (AD .i64 (a-c)/\AD .u8 b/\AD .u8 d,.int .i64 (Io a b c d))
 |_=>none
def f4p:Fam:=⟨Int×Int×Int×Int,λ(a,b,c,d)=>[.agg [.int .i64 a,.int .u8 b],.agg [.int .i64 c,.int .u8 d]],λ(a,b,c,d)=>AD .i64 (a-c)/\AD .u8 b/\AD .u8 d,λ(a,b,c,d)=>.int .i64 (Io a b c d)⟩
theorem f3c:PS 159 Wm:=by
 refine con [] Dz f4p (λ_ _=>none) Wm ?_ ?_ Tryz.func159 Dy Dy Dy ?_
 .intro args pre s h e;unfold Wm at h;split at h
  .rename_i a b c d;cases h;exact⟨(a,b,c,d),by simp[f4p,BT,SV.le2,SV.le1,BM,SV.le0],e,rfl⟩
  .cases h
 .exact Bx
 .rintro⟨a,b,c,d⟩ e;replace e:AD .i64 (a-c)/\AD .u8 b/\AD .u8 d:=e;refine X0a _ ?_;(repeat' first|constructor|intro h)<;>refine Lm ?_
  all_goals(simp at h)
  all_goals(try(simp[Io,h];done))
  all_goals(simp only[AD]at e⊢;omega)
def Qe(k:Int):Bool:=decide (1<=k)&&decide (k<=3)
def b8m:AK
 | [.int .u8 k]=>some (True,.bool (Qe k))
 |_=>none
def d5j:Fam:=⟨Int,λk=>[.int .u8 k],λ_=>True,λk=>.bool (Qe k)⟩
theorem f9t:PS 156 b8m:=by
 refine con [] Dz d5j (λ_ _=>none) b8m ?_ ?_ Tryz.func156 Dy Dy Dy ?_
 .intro args pre s h a;unfold b8m at h;split at h
  .rename_i k;cases h;exact⟨k,by simp[d5j,BT,SV.le2,SV.le1,SV.le0],a,rfl⟩
  .cases h
 .exact By
 .intro(k:Int) a;replace a:True:=a;refine X0a _ ?_;(repeat' first|constructor|intro h)<;>refine Lm ?_
  all_goals rfl
def b9h:AK
 | [.agg [.int .i64 _,.int .u8 _,.int .u8 k]]=>some (True,.bool (!Qe k))
 |_=>none
def d29:Fam:=⟨Int×Int×Int,λ(a,b,k)=>[.agg [.int .i64 a,.int .u8 b,.int .u8 k]],λ(_,_,_)=>True,λ(_,_,k)=>.bool (!Qe k)⟩
theorem f8i:PS 155 b9h:=by
 refine con [(156,b8m)] (by simpa using f9t) d29 (λ_ _=>none) b9h ?_ ?_ Tryz.func155 Dy Dy Dy ?_
 .intro args pre s h c;unfold b9h at h;split at h
  .rename_i a b k;cases h;exact⟨(a,b,k),by simp[d29,BT,SV.le2,SV.le1,BM,SV.le0],c,rfl⟩
  .cases h
 .exact By
 .rintro⟨a,b,k⟩ c;replace c:True:=c;refine X0a _ ?_;(repeat' first|constructor|intro h)<;>refine Lm ?_
def LG(x:Cr):Bool:= !Qe x.k
def SQ(p:Cr->Bool)(l:List Cr):Int:=match l.findIdx? p with
 |some i=>i
 |none=> -1
theorem f0a{p:Cr->Bool}{l:List Cr}{i:Nat}(hi:i<l.length)(h:∀j,j<i->p (l.getD j d0)=false)(a:p (l.getD i d0)=true):SQ p l=i:=by
 have:l.findIdx? p=some i:=by
  rw[L1];refine⟨hi,?_,λj b=> ?_⟩
  .simpa[J5,hi]using a
  .have:=h j b;have c:j<l.length:=Dx;simpa[J5,c]using this
 simp[SQ,this]
theorem d3u{p:Cr->Bool}{l:List Cr}(h:∀j,j<l.length->p (l.getD j d0)=false):SQ p l= -1:=by
 have:l.findIdx? p=none:=by rw[Lg];intro x hx;obtain⟨j,a,rfl⟩:=K7.1 hx;have:=h j a;simpa[J5,a]using this
 simp[SQ,this]
theorem d8y(p:Cr->Bool)(l:List Cr):decide (0<=SQ p l)=l.any p:=by
 unfold SQ;cases h:l.findIdx? p with
 |none=>
  have:=Lg.1 h;have:l.any p=false:=by rw[Jx];intro x hx;simpa using this x hx
  rw[this];rfl
 |some i=>
  have:=L1.1 h;obtain⟨a,b,_⟩:=this;have:l.any p=true:=Jp.2 ⟨_,Kb a,b⟩;rw[this];simp
def b1h:AK
 | [x,.clo g []]=>if g=155 then match NU x with
   |some (n,f)=>some (KZ n f/\n<=100000,.int .i64 (SQ LG (DZ n f)))
   |none=>none
   else none
 |_=>none
def b83:Fam:=⟨List Cr,λl=>[.sl 3 l.length (DU l) none,.clo 155 []],λl=>l.length<=100000,λl=>.int .i64 (SQ LG l)⟩
def d0c(l:List Cr):Nat->Option Inv
 |2=>some {β:=Nat,ok:=λi=>i<=l.length/\∀j,j<i->LG (l.getD j d0)=false,st:=λi=>⟨[⟨8,none,.int .i64 i⟩,⟨7,none,.int .i64 l.length⟩,⟨0,none,.sl 3 l.length (DU l) none⟩,⟨1,none,.clo 155 []⟩],[]⟩,μ:=λi=>l.length-i}
 |_=>none
theorem d02:PS 193 b1h:=by
 refine con [(155,b9h)] (by simpa using f8i) b83 (λl=>d0c l) b1h ?_ ?_ Tryz.func193 Dy Dy Dy ?_
 .intro args pre s h a;unfold b1h at h;split at h
  .split at h
   .rename_i k;subst k;split at h
    .rename_i n f hx;cases h;exact⟨DZ n f,⟨IW (QH hx a.1),⟨rfl,rfl⟩,Ja⟩,by simp only[b83,RP];exact a.2,rfl⟩
    .cases h
   .cases h
  .cases h
 .exact Bx
 .intro(l:List Cr) a;replace a:l.length<=100000:=a;refine X0a _ ?_;(repeat' first|constructor|intro h)<;>refine Lm ?_
  refine⟨(0:Nat),⟨Dx,λj g=>Dx⟩,?_,?_⟩
  .exact X0d
  .rintro i ⟨f7,d⟩;refine X0a _ ?_;(repeat' first|constructor|intro h)<;>refine Lm ?_
   .simp at h;omega
   .rename_i b;simp at b;exact(f0a b d h).symm
   .simp only[AD];omega
   .rename_i b;simp at b;refine⟨i+1,⟨Dx,λj g=> ?_⟩,Dx,?_⟩
    .by_cases e:j=i
     .subst e;exact h
     .exact d j Dx
    .exact X0g
   .simp at h;exact(d3u (λj g=>d j Dx)).symm
def b2w:AK
 | [x,.clo g []]=>if g=155 then match NU x with
   |some (n,f)=>some (KZ n f/\n<=100000,.bool ((DZ n f).any LG))
   |none=>none
   else none
 |_=>none
def c2m:Fam:=⟨List Cr,λl=>[.sl 3 l.length (DU l) none,.clo 155 []],λl=>l.length<=100000,λl=>.bool (l.any LG)⟩
theorem d2j:PS 154 b2w:=by
 refine con [(193,b1h)] (by simpa using d02) c2m (λ_ _=>none) b2w ?_ ?_ Tryz.func154 Dy Dy Dy ?_
 .intro args pre s h a;unfold b2w at h;split at h
  .split at h
   .rename_i b;subst b;split at h
    .rename_i n f hx;cases h;exact⟨DZ n f,⟨IW (QH hx a.1),⟨rfl,rfl⟩,Ja⟩,by simp only[c2m,RP];exact a.2,rfl⟩
    .cases h
   .cases h
  .cases h
 .exact Bx
 .intro(l:List Cr) a;replace a:l.length<=100000:=a;refine X0a _ ?_;(repeat' first|constructor|intro h)<;>refine Lm ?_
  .exact⟨Do l,a⟩
  .rw[CI];exact d8y _ _
structure Pt where
 W:Int
 H:Int
 l:List Cr
 deriving DecidableEq
def ID(p:Pt):SV:=.agg [.int .i64 p.W,.int .i64 p.H,.sl 3 p.l.length (DU p.l) none]
def NS:SV->Option (Prop×Pt)
 |.agg [.int .i64 W,.int .i64 H,x]=>(NU x).map λq=>(KZ q.1 q.2/\q.1<=100000,⟨W,H,DZ q.1 q.2⟩)
 |_=>none
theorem Nl{s:SV}{q:Prop}{p:Pt}(h:NS s=some (q,p))(a:q):s.le2 (ID p)/\p.l.length<=100000:=by
 unfold NS at h;split at h
 .rename_i W H x;rw[Jc]at h;obtain⟨⟨n,f⟩,hx,h⟩:=h;cases h;refine⟨?_,by simp only[RP];exact a.2⟩;simp only[ID,SV.le2,SV.le1,BM,and_true];exact⟨E3,E3,QH hx a.1⟩
 .cases h
structure Pa where
 a:Int
 b:Int
 deriving DecidableEq
def CE:RT Pa:=⟨2,λp=>[.int .i64 p.a,.int .i64 p.b],λl=>match l with
 | [.int _ a,.int _ b]=>⟨a,b⟩
 |_=>⟨0,0⟩,⟨0,0⟩,λ_=>rfl⟩
structure Lo where
 s:Int
 a:Int
 b:Int
 deriving DecidableEq
def BR:RT Lo:=⟨3,λp=>[.int .u8 p.s,.int .i64 p.a,.int .i64 p.b],λl=>match l with
 | [.int _ s,.int _ a,.int _ b]=>⟨s,a,b⟩
 |_=>⟨0,0,0⟩,⟨0,0,0⟩,λ_=>rfl⟩
structure Sm where
 a:Cl
 b:Cl
 ps:List Pa
 ls:List Lo
 en:List Int
 deriving DecidableEq
def BD:Sm:=⟨⟨0,0,0⟩,⟨0,0,0⟩,[],[],[]⟩
def BU(s:Sm):List Int:=[s.a.x,s.a.y,s.a.q,s.b.x,s.b.y,s.b.q]
def DR(S:List Sm)(q:List Int):Bool:=S.any λs=>decide (BU s=q)
def CQ(S:List Sm)(q:List Int):Nat:=S.findIdx λs=>decide (BU s=q)
def JX(s:Sm):Mem:=⟨[.int .i64 s.a.x,.int .i64 s.a.y,.int .u8 s.a.q,.int .i64 s.b.x,.int .i64 s.b.y,.int .u8 s.b.q,.osl 0,.osl 1,.osl 2],[(s.ps.length,CE.row s.ps),(s.ls.length,BR.row s.ls),(s.en.length,AC.row s.en)]⟩
def JZ(S:List Sm)(i:Nat):List SV:=[.int .i64 (S.getD i BD).a.x,.int .i64 (S.getD i BD).a.y,.int .u8 (S.getD i BD).a.q,.int .i64 (S.getD i BD).b.x,.int .i64 (S.getD i BD).b.y,.int .u8 (S.getD i BD).b.q]
theorem f05(S:List Sm)(s:Sm)(q:List Int):HT (DR S) (BU s) q=DR (S++[s]) q:=by unfold HT DR;rw[List.any_append];simp only[List.any_cons,List.any_nil,N2];rw[Bool.or_comm];congr 1;rw[Ls];simp only[Jh];exact⟨λh=>h.symm,λh=>h.symm⟩
theorem d8d(S:List Sm)(s:Sm)(q:List Int)(a:DR S (BU s)=false)(h:DR (S++[s]) q=true):(if q=BU s then S.length else CQ S q)=CQ (S++[s]) q:=by
 unfold CQ DR at*;rw[List.findIdx_append];by_cases e:q=BU s
 .subst e;have:S.findIdx (λx=>decide (BU x=BU s))=S.length:=by
   rw[List.findIdx_eq_length];intro x hx;have:=Jx.1 a x hx;simpa using this
  rw[J7 rfl,this,J8 (Lz _)];simp[List.findIdx_cons]
 .rw[J8 e];have:S.any (λx=>decide (BU x=q))=true:=by
   rw[List.any_append]at h;simpa[Ne.symm e]using h
  have b:S.findIdx (λx=>decide (BU x=q))<S.length:=by rw[List.findIdx_lt_length];obtain⟨x,hx,c⟩:=Jp.1 this;exact⟨x,hx,c⟩
  rw[J7 b]
theorem LY{S:List Sm}{q:List Int}(h:DR S q=true):CQ S q<S.length:=by unfold CQ;rw[List.findIdx_lt_length];obtain⟨x,hx,a⟩:=Jp.1 h;exact⟨x,hx,a⟩
def Oh(x y:Cl):Cl:=if 0<FQ x.x x.y x.q y.x y.y y.q then y else x
def OV(x y:Cl):Cl:=if 0<FQ x.x x.y x.q y.x y.y y.q then x else y
def IR(x y:Cl):List Int:=BU ⟨Oh x y,OV x y,[],[],[]⟩
def DT(S:List Sm)(x y:Cl):List Sm:=if DR S (IR x y)=true then S else S++[⟨Oh x y,OV x y,[],[],[]⟩]
structure Bd where
 p:Pt
 pl:List Mv
 im:List Cl
 ht:List Int
def g02(b:Bd):Blk:=.cells 188 [.int .i64 b.p.W,.int .i64 b.p.H,.sl 3 b.p.l.length (DU b.p.l) none,.sl 3 b.pl.length (AE.row b.pl) none,.sl 3 b.im.length (DE.row b.im) none,.osl 1,.omp 2,.osl 3]
def Sr(b:Bd)(S:List Sm):List Blk:=[g02 b,.row 3 1 b.ht.length (AC.row b.ht) none,.pmap (.ints [.i64,.i64,.u8,.i64,.i64,.u8]) 4 (DR S) (CQ S),.row 193 6 S.length (JZ S) none,
 .fam 156 [(229,2),(158,3),(3,1)] S.length none (λi=>JX (S.getD i BD))]
def TG(m:Mem):Sm:=match m with
 |⟨[.int _ a,.int _ b,.int _ c,.int _ d,.int _ e,.int _ f,_,_,_],[g,h,i]⟩=>⟨⟨a,b,c⟩,⟨d,e,f⟩,CE.lst g.1 g.2,BR.lst h.1 h.2,AC.lst i.1 i.2⟩
 |_=>BD
theorem b4k(s:Sm):TG (JX s)=s:=by have a:=RT.lst_row CE s.ps;have b:=RT.lst_row BR s.ls;have c:=RT.lst_row AC s.en;simp only[JX,TG,a,b,c]
def KY(n:Nat)(F:Nat->Mem):List Sm:=(List.range n).map λi=>TG (F i)
theorem Wp(S:List Sm):KY S.length (λi=>JX (S.getD i BD))=S:=by
 unfold KY;apply M9;intro i;by_cases a:i<S.length
 .simp[a,b4k]
 .simp at a;simp[a]
theorem b3i(n:Nat)(F:Nat->Mem):(KY n F).length=n:=by simp[KY]
def asBd:List Blk->Option (Prop×Bd×List Sm)
 | [.cells k [.int .i64 W,.int .i64 H,l,pl,m,.osl k1,.omp k2,.osl k3],.row o p c d _,.pmap K k4 b BQ,.row r s e t _,.fam u v a w F]=>
   match NU l,AE.as pl,DE.as m with
   |some (n,f),some (g,f2),some (h,j)=>if(k=188/\k1=1/\k2=2/\k3=3/\o=3/\p=1)/\(K=.ints [.i64,.i64,.u8,.i64,.i64,.u8]/\k4=4/\r=193/\s=6)/\u=156/\v=[(229,2),(158,3),(3,1)]/\w=none then
    some (((KZ n f/\n<=100000)/\AE.is g f2/\DE.is h j/\AC.is c d)/\e=a/\(∀i,i<e->t i=JZ (KY a F) i)/\(∀q,b q=DR (KY a F) q)/\(∀q,b q=true->BQ q=CQ (KY a F) q)/\∀i,i<a->(F i).le (JX (TG (F i))),
    ⟨⟨W,H,DZ n f⟩,AE.lst g f2,DE.lst h j,AC.lst c d⟩,KY a F)
    else none
   |_,_,_=>none
 |_=>none
theorem d1i{own:List Blk}{q:Prop}{b:Bd}{S:List Sm}(h:asBd own=some (q,b,S))(d:q):own.length=5/\SH 5 own (Sr b S)/\b.p.l.length<=100000:=by
 unfold asBd at h;split at h;rotate_left
 .cases h
 rename_i T1 W H cr pl im k1 k2 k3 T2 z2 e g c1 K k4 has BQ T3 z3 a kf c2 T4 Ts fn bw F;split at h;rotate_left
 .cases h
 rename_i n f n2 f2 n3 f3 h1 h2 h3;split at h;rotate_left
 .cases h
 rename_i j;obtain⟨⟨rfl,rfl,rfl,rfl,rfl,rfl⟩,⟨rfl,rfl,rfl,rfl⟩,rfl,rfl,rfl⟩:=j;simp only[Ii]at h;obtain⟨rfl,rfl,rfl⟩:=h;obtain⟨⟨q1,q2,q3,k⟩,rfl,m,o,r,s⟩:=d;refine⟨rfl,⟨⟨?_,?_⟩,⟨?_,?_,?_,?_⟩,⟨?_,o,r⟩,⟨?_,?_,?_,?_⟩,⟨?_,?_,rfl,?_⟩,Ja⟩,H9⟩
 .exact Ca
 .exact Di
 .exact Ca
 .exact(RT.lst_length AC e g).symm
 .exact Ja
 .exact RQ (AC.row_lst k)
 .rw[J7 ⟨rfl,rfl,E1⟩];trivial
 .exact Ca
 .exact(b3i a F).symm
 .exact Ja
 .exact RQ m
 .rw[J7 ⟨rfl,rfl,rfl⟩];trivial
 .exact(b3i a F).symm
 .intro i c;have:(KY a F).getD i BD=TG (F i):=by simp[KY,c]
  show (F i).le (JX ((KY a F).getD i BD));rw[this];exact s i c
theorem b6t:∀l:List (Nat×(Nat->List SV)),c5n l l
 | []=>trivial
 |_::r=>⟨rfl,λ_ _=>rfl,b6t r⟩
theorem UA(m:Mem):m.le m:=⟨rfl,b6t _⟩
abbrev sN(l h:Cl):Sm:=⟨l,h,[],[],[]⟩
section
variable{S:List Sm}{l h:Cl}
theorem d2d:HT (DR S) [l.x,l.y,l.q,h.x,h.y,h.q] [l.x,l.y,l.q,h.x,h.y,h.q]=true:=by simp[HT]
theorem f48:∀q,HT (DR S) [l.x,l.y,l.q,h.x,h.y,h.q] q=DR (S++[sN l h]) q:=f05 S (sN l h)
theorem f2v(a:DR S [l.x,l.y,l.q,h.x,h.y,h.q]=false):∀q,HT (DR S) [l.x,l.y,l.q,h.x,h.y,h.q] q=true->(if q=[l.x,l.y,l.q,h.x,h.y,h.q]then S.length else CQ S q)=CQ (S++[sN l h]) q:=λq b=>d8d S (sN l h) q a (by rw[<-f48];exact b)
theorem f98(a:DR S [l.x,l.y,l.q,h.x,h.y,h.q]=false):(if [l.x,l.y,l.q,h.x,h.y,h.q]=[l.x,l.y,l.q,h.x,h.y,h.q]then S.length else CQ S [l.x,l.y,l.q,h.x,h.y,h.q])=CQ (S++[sN l h]) [l.x,l.y,l.q,h.x,h.y,h.q]:=f2v a _ d2d
theorem at_len:S.length+1=(S++[sN l h]).length:=Dz
theorem at_row:∀i,i<S.length+1->(if i<S.length then JZ S i else(List.map (λx:Nat×List SV=>x.snd) [(0,[SV.int .i64 l.x,.int .i64 l.y,.int .u8 l.q,.int .i64 h.x,.int .i64 h.y,.int .u8 h.q])].reverse).getD (i-S.length) [])=JZ (S++[sN l h]) i:=by
 intro i hi;by_cases a:i<S.length
 .rw[J7 a];simp[JZ,Jg a]
 .have:i=S.length:=Dx;subst this;rw[J8 (Lz _)];simp[JZ]
theorem at_mem:∀i,i<S.length+1->(if i=S.length then⟨lz 0 [SV.int .i64 l.x,.int .i64 l.y,.int .u8 l.q,.int .i64 h.x,.int .i64 h.y,.int .u8 h.q,.con (.slice none 0 0),.con (.slice none 0 0),.con (.slice none 0 0)],List.map (λ_=>(0,λ_=>[])) [(229,2),(158,3),(3,1)]⟩else JX (S.getD i BD):Mem).le (JX ((S++[sN l h]).getD i BD)):=by
 intro i a;by_cases b:i=S.length
 .subst b;rw[J7 rfl];have:(S++[sN l h]).getD S.length BD=sN l h:=by simp[]
  rw[this];exact⟨rfl,rfl,λ_ a=>absurd a (Jv _),rfl,λ_ a=>absurd a (Jv _),rfl,λ_ a=>absurd a (Jv _),Ja⟩
 .rw[J8 b];have:(S++[sN l h]).getD i BD=S.getD i BD:=by simp[Jg (show i<S.length from Dx)]
  rw[this];exact UA _
end
def clSV(c:Cl):SV:=.agg [.int .i64 c.x,.int .i64 c.y,.int .u8 c.q]
def hBAt:HK:=λg own=>match g with
 | [.own 0 0,.agg [.int .i64 a,.int .i64 b,.int .u8 c],.agg [.int .i64 d,.int .i64 e,.int .u8 f]]=>(asBd own).map λq=>⟨q.1/\(AD .u8 c/\AD .u8 f)/\q.2.2.length<=1000000,.fp true 4 (CQ (DT q.2.2 ⟨a,b,c⟩ ⟨d,e,f⟩) (IR ⟨a,b,c⟩ ⟨d,e,f⟩)) 0,Sr q.2.1 (DT q.2.2 ⟨a,b,c⟩ ⟨d,e,f⟩),[3,4]⟩
 |_=>none
def FBAt:FamH:=⟨(Bd×List Sm)×Cl×Cl,λ(_,x,y)=>[.own 0 0,clSV x,clSV y],λ((b,S),_,_)=>Sr b S,λ((b,S),x,y)=>(b.p.l.length<=100000)/\(AD .u8 x.q/\AD .u8 y.q)/\S.length<=1000000,λ((_,S),x,y)=>.fp true 4 (CQ (DT S x y) (IR x y)) 0,λ((b,S),x,y)=>Sr b (DT S x y),[3,4]⟩
theorem pBAt:HS 136 hBAt:=by
 refine FU {l:=[(100,Ro)]} ⟨Ha,Dz,Dz⟩ FBAt (λ_ _=>none) hBAt ?_ ?_ ?_ Tryz.func136 Dy Dy Dy ?_
 .intro args own r h g;unfold hBAt at h;split at h
  .rename_i a b c d e f;simp only[Jc]at h;obtain⟨⟨q,n,S⟩,hx,rfl⟩:=h;obtain⟨o,s,t⟩:=d1i hx g.1;exact⟨((n,S),⟨a,b,c⟩,⟨d,e,f⟩),⟨E6,by simp[clSV,SV.le2,SV.le1,BM,SV.le0],by simp[clSV,SV.le2,SV.le1,BM,SV.le0],Ja⟩,o,s,⟨t,g.2⟩,rfl,rfl,rfl⟩
  .cases h
 .exact Bz
 .intro i;show 5<=5;decide
 .rintro⟨⟨b,S⟩,x,y⟩ μ g;replace g:(b.p.l.length<=100000)/\(AD .u8 x.q/\AD .u8 y.q)/\S.length<=1000000:=g;have cT:decide (0<FQ x.x x.y x.q y.x y.y y.q)=true->IR x y=[y.x,y.y,y.q,x.x,x.y,x.q]/\(DR S [y.x,y.y,y.q,x.x,x.y,x.q]=false->DT S x y=S++[sN y x])/\(DR S [y.x,y.y,y.q,x.x,x.y,x.q]=true->DT S x y=S):=by
   intro k;have gn:=Kj k;have e:IR x y=[y.x,y.y,y.q,x.x,x.y,x.q]:=by simp[IR,BU,Oh,OV,gn]
   exact Dj
  have u:decide (0<FQ x.x x.y x.q y.x y.y y.q)=false->IR x y=[x.x,x.y,x.q,y.x,y.y,y.q]/\(DR S [x.x,x.y,x.q,y.x,y.y,y.q]=false->DT S x y=S++[sN x y])/\(DR S [x.x,x.y,x.q,y.x,y.y,y.q]=true->DT S x y=S):=by
   intro k;have gn:=Lu k;have e:IR x y=[x.x,x.y,x.q,y.x,y.y,y.q]:=by simp[IR,BU,Oh,OV,gn]
   exact Dj
  refine X0a _ ?_;(repeat' first|constructor|intro h)<;>refine Lm ?_
  all_goals(first
   |exact g.2.1
   |exact B3
   |exact⟨Dx,LP Dy Dx⟩
   |(obtain⟨e1,m,j⟩:=cT E2
     first
      |(have hk:DR S [y.x,y.y,y.q,x.x,x.y,x.q]=false:=by simpa using h
        first
         |exact d2d
         |(rw[m hk]
           first
            |exact Bh))
      |(have hk:DR S [y.x,y.y,y.q,x.x,x.y,x.q]=true:=by simpa using h
        first
         |exact hk
         |exact Mf List.length (j hk).symm
         |(rw[j hk]
           first
            |exact Be
            |exact B3
            |rfl
            |exact Bf
            |(rw[e1];exact λ_=>rfl))))
   |(obtain⟨e1,m,j⟩:=u E2
     first
      |(have hk:DR S [x.x,x.y,x.q,y.x,y.y,y.q]=false:=by simpa using h
        first
         |exact d2d
         |(rw[m hk]
           first
            |exact Bh))
      |(have hk:DR S [x.x,x.y,x.q,y.x,y.y,y.q]=true:=by simpa using h
        first
         |exact hk
         |exact Mf List.length (j hk).symm
         |(rw[j hk]
           first
            |exact Be
            |exact B3
            |rfl
            |exact Bf
            |(rw[e1];exact λ_=>rfl))))
   |skip)
def sX(Q:Int):Int:=tb [0,1,0,-1] Q.toNat
def sY(Q:Int):Int:=tb [-1,0,1,0] Q.toNat
def dX(t Q:Int):Int:=Nx t 0 0 (sX Q) (sY Q)
def dY(t Q:Int):Int:=NW t 0 0 (sX Q) (sY Q)
def MS(t Q:Int)(i:Nat):Bool:=and (decide (tb [0,1,0,-1] i=dX t Q)) (and (decide (tb [-1,0,1,0] i=dY t Q)) true)
def RW(t Q:Int):Nat->Int
 |0=>0
 |i+1=>bif MS t Q i then i else RW t Q i
def KN(t Q:Int):Int:=RW t Q 4
def Qb(p:Int):Int:=(p-p%2).tdiv 2
def LD(t x y X Y:Int):Int:=Qb (Nx t x y (2*X+1) (2*Y+1))
def LU(t x y X Y:Int):Int:=Qb (NW t x y (2*X+1) (2*Y+1))
theorem po_le{t x y a b:Int}(c:0<=t)(h:DP t x y=0)(a1: -9000<=a)(a2:a<=9000)(b1: -9000<=b)(b2:b<=9000): -60000<=Nx t x y a b/\Nx t x y a b<=60000/\ -60000<=NW t x y a b/\NW t x y a b<=60000:=by have m:=TK h;have r:=c4p (t:=t) (x:=a) (y:=b) (B:=9000) c m.1 Dx Dx Dx Dx;unfold Nx NW keep;split<;>omega
theorem d5z{p:Int}(h1: -60000<=p)(h2:p<=60000): -60000<=Qb p/\Qb p<=60000:=by unfold Qb;have:=Int.tdiv_eq_ediv (a:=p-p%2) (b:=2);rw[this];split<;>omega
def c4i:SV:=.agg (WR 0++WR 1++WR 2++WR 3)
def IMoved:Int×Int×Int×Int×Int×Int->Nat->Option Inv
 |(t,x,y,X,Y,Q),7=>some {β:=Nat,ok:=λi=>i<=4,st:=λi=>⟨[⟨47,none,.int .i64 i⟩,⟨46,none,c4i⟩,⟨7,none,.own 5 0⟩,⟨6,none,.own 4 0⟩,⟨4,none,.own 2 0⟩],[.cells 31 [.int .u8 t,.int .i64 0,.int .i64 0],.cells 39 [.int .i64 X,.int .i64 Y,.int .u8 Q],.cells 39 [.int .i64 0,.int .i64 0,.int .u8 0],.cells 258 [.int .i64 (Nx t x y (2*X+1) (2*Y+1)),.int .i64 (NW t x y (2*X+1) (2*Y+1))],.cells 258 [.int .i64 (dX t Q),.int .i64 (dY t Q)],.cells 39 [.int .i64 (LD t x y X Y),.int .i64 (LU t x y X Y),.int .u8 (RW t Q i)]]⟩,μ:=λi=>4-i}
 |_,_=>none
def c7v:AK
 | [.agg [.int .u8 t,.int .i64 x,.int .i64 y],.agg [.int .i64 X,.int .i64 Y,.int .u8 Q]]=>some (DP t x y=0/\EC X Y Q=0/\0<=t/\0<=Q,.agg [.int .i64 (LD t x y X Y),.int .i64 (LU t x y X Y),.int .u8 (KN t Q)])
 |_=>none
def f52:Fam:=⟨Int×Int×Int×Int×Int×Int,λ(t,x,y,X,Y,Q)=>[.agg [.int .u8 t,.int .i64 x,.int .i64 y],.agg [.int .i64 X,.int .i64 Y,.int .u8 Q]],λ(t,x,y,X,Y,Q)=>DP t x y=0/\EC X Y Q=0/\0<=t/\0<=Q,λ(t,x,y,X,Y,Q)=>.agg [.int .i64 (LD t x y X Y),.int .i64 (LU t x y X Y),.int .u8 (KN t Q)]⟩
theorem pMoved:PS 165 c7v:=by
 refine con [(196,c0r),(197,b4p)] (by simpa using⟨g0z,f08⟩) f52 IMoved c7v ?_ ?_ Tryz.func165 Dy Dy Dy ?_
 .intro args pre s h d;unfold c7v at h;split at h
  .rename_i t x y X Y Q;cases h;exact⟨(t,x,y,X,Y,Q),by simp[f52,BT,SV.le2,SV.le1,BM,SV.le0],d,rfl⟩
  .cases h
 .exact Bx
 .rintro⟨t,x,y,X,Y,Q⟩ d;replace d:DP t x y=0/\EC X Y Q=0/\0<=t/\0<=Q:=d;refine X0a _ ?_;(repeat' first|constructor|intro h)<;>refine Lm ?_
  all_goals(have m:=TK d.1;have c:=TB d.2.1;have r:=po_le d.2.2.1 d.1 (a:=2*X+1) (b:=2*Y+1) Dx Dx Dx Dx)
  all_goals(first
   |exact Ak
   |(have q:=d5z r.1 r.2.1;simp only[Qb]at q;simp only[AD];omega)
   |(have q:=d5z r.2.2.1 r.2.2.2;simp only[Qb]at q;simp only[AD];omega)
   |refine⟨(0:Nat),E1,?_,?_⟩)
  .exact X0d
  .intro i f;replace f:i<=4:=f;have:i=0\/i=1\/i=2\/i=3\/i=4:=Dx;rcases this with rfl|rfl|rfl|rfl|rfl;all_goals refine X0a _ ?_;(repeat' first|constructor|intro h)<;>refine Lm ?_
   all_goals(first
    |decide
    |rfl
    |exact A4
    |(refine⟨(1:Nat),E1,E1,?_⟩;(first|(have h:MS t Q 0=true:=h)|(have h:MS t Q 0=false:=h)))
    |(refine⟨(2:Nat),E1,E1,?_⟩;(first|(have h:MS t Q 1=true:=h)|(have h:MS t Q 1=false:=h)))
    |(refine⟨(3:Nat),E1,E1,?_⟩;(first|(have h:MS t Q 2=true:=h)|(have h:MS t Q 2=false:=h)))
    |(refine⟨(4:Nat),E1,E1,?_⟩;(first|(have h:MS t Q 3=true:=h)|(have h:MS t Q 3=false:=h))))
   all_goals refine X0a _ ?_;(repeat' first|constructor|intro h)<;>refine Lm ?_
   all_goals first|exact Aw|(simp only[RW,h,N1,cond_false];done)|(simp only[RW];rw[h];rfl)|skip
theorem d28(t Q:Int):∀n:Nat,0<=RW t Q n/\RW t Q n<=n
 |0=>⟨Lx _,Lx _⟩
 |n+1=>by have:=d28 t Q n;simp only[RW];cases MS t Q n<;>simp<;>omega
def HG(t x y X Y Q:Int):Int:=if DP t x y=0/\EC X Y Q=0 then(if EC (LD t x y X Y) (LU t x y X Y) (KN t Q)=0 then 0 else 3)else 1
def VC:AK
 | [.agg [.int .u8 t,.int .i64 x,.int .i64 y],.agg [.int .i64 X,.int .i64 Y,.int .u8 Q]]=>some (0<=t/\t<=255/\0<=Q,.tup [.agg [.int .i64 (keep (HG t x y X Y Q) (LD t x y X Y)),.int .i64 (keep (HG t x y X Y Q) (LU t x y X Y)),.int .u8 (keep (HG t x y X Y Q) (KN t Q))],.int .i64 (HG t x y X Y Q)])
 |_=>none
def c14:Fam:=⟨Int×Int×Int×Int×Int×Int,λ(t,x,y,X,Y,Q)=>[.agg [.int .u8 t,.int .i64 x,.int .i64 y],.agg [.int .i64 X,.int .i64 Y,.int .u8 Q]],λ(t,_,_,_,_,Q)=>0<=t/\t<=255/\0<=Q,λ(t,x,y,X,Y,Q)=>.tup [.agg [.int .i64 (keep (HG t x y X Y Q) (LD t x y X Y)),.int .i64 (keep (HG t x y X Y Q) (LU t x y X Y)),.int .u8 (keep (HG t x y X Y Q) (KN t Q))],.int .i64 (HG t x y X Y Q)]⟩
theorem b5a:PS 119 VC:=by
 refine con [(17,QU),(123,Qm),(165,c7v)] (by simpa using⟨Tx,Uk,pMoved⟩) c14 (λ_ _=>none) VC ?_ ?_ Tryz.func119 Dy Dy Dy ?_
 .intro args pre s h a;unfold VC at h;split at h
  .rename_i t x y X Y Q;cases h;exact⟨(t,x,y,X,Y,Q),by simp[c14,BT,SV.le2,SV.le1,BM,SV.le0],a,rfl⟩
  .cases h
 .exact Bx
 .rintro⟨t,x,y,X,Y,Q⟩ a;replace a:0<=t/\t<=255/\0<=Q:=a;refine X0a _ ?_;(repeat' first|constructor|intro h)<;>refine Lm ?_
  all_goals(first|grind|grind[HG,keep])
def DS(W H:Int):Int:=if AP W H=0 then 4*W*H else 0
def VN:AK
 | [.agg [.int .i64 W,.int .i64 H]]=>some (True,.int .i64 (DS W H))
 |_=>none
def f4x:Fam:=⟨Int×Int,λ(W,H)=>[.agg [.int .i64 W,.int .i64 H]],λ(_,_)=>True,λ(W,H)=>.int .i64 (DS W H)⟩
theorem d36:PS 103 VN:=by
 refine con [(96,Pu)] (by simpa using TY) f4x (λ_ _=>none) VN ?_ ?_ Tryz.func103 Dy Dy Dy ?_
 .intro args pre s h a;unfold VN at h;split at h
  .rename_i W H;cases h;exact⟨(W,H),by simp[f4x,BT,SV.le2,SV.le1,BM,SV.le0],a,rfl⟩
  .cases h
 .exact By
 .rintro⟨W,H⟩ a;replace a:True:=a;refine X0a _ ?_;(repeat' first|constructor|intro h)<;>refine Lm ?_
  all_goals(have z:=@QP W H)
  all_goals(try simp only[AD])
  all_goals grind[DS]
def Ph(W H i e:Int):Int:=if AP W H=0 then(if AU W H i e=0/\EA W H i e=i/\ET W H i e=e then 0 else 7)else 1
def NG(W H i e v:Int):Int:=if Ph W H i e=0 then v else 0
theorem b3f{W H i e:Int}(h:AU W H i e=0):KO W H i=0:=by
 unfold AU at h;split at h
 .assumption
 .exact h
theorem b86{W H i:Int}(h:KO W H i=0):AP W H=0/\0<=i/\i<4*(W*H):=by
 unfold KO at h;split at h
 .rename_i a;have z:=QP a;split at h
  .rename_i b;simp[SO]at b;exact⟨a,b.1,Dx⟩
  .cases h
 .cases h
def c5y:AK
 | [.agg [.int .i64 W,.int .i64 H],.agg [.int .i64 i,.int .u8 e]]=>some (0<=e,.tup [.agg [.int .i64 (NG W H i e (i/4%W)),.int .i64 (NG W H i e (i/4/W)),.int .u8 (NG W H i e (i%4))],.int .i64 (Ph W H i e)])
 |_=>none
def f45:Fam:=⟨Int×Int×Int×Int,λ(W,H,i,e)=>[.agg [.int .i64 W,.int .i64 H],.agg [.int .i64 i,.int .u8 e]],λ(_,_,_,e)=>0<=e,λ(W,H,i,e)=>.tup [.agg [.int .i64 (NG W H i e (i/4%W)),.int .i64 (NG W H i e (i/4/W)),.int .u8 (NG W H i e (i%4))],.int .i64 (Ph W H i e)]⟩
theorem pNamed:PS 194 c5y:=by
 refine con [(96,Pu),(157,Sy),(164,YF)] (by simpa using⟨TY,d97,pCell⟩) f45 (λ_ _=>none) c5y ?_ ?_ Tryz.func194 Dy Dy Dy ?_
 .intro args pre s h a;unfold c5y at h;split at h
  .rename_i W H i e;cases h;exact⟨(W,H,i,e),by simp[f45,BT,SV.le2,SV.le1,BM,SV.le0],a,rfl⟩
  .cases h
 .exact Bx
 .rintro⟨W,H,i,e⟩ a;replace a:0<=e:=a;refine X0a _ ?_;(repeat' first|constructor|intro h)<;>refine Lm ?_
  all_goals(have z:=@QP W H;have z2:=@b3f W H i e;have z3:=@b86 W H i;have z4:=b4f W H)
  all_goals(first|grind|grind[Ph,NG])
theorem f61{q:Cr->Bool}{l:List Cr}{i:Nat}(hi:i<l.length)(h:q (l.getD i d0)=true):l.any q=true:=by refine Jp.2 ⟨l[i],Kb hi,?_⟩;simpa[J5,hi]using h
theorem d7z{q:Cr->Bool}{l:List Cr}(h:∀j,j<l.length->q (l.getD j d0)=false):l.any q=false:=by rw[Jx];intro x hx;obtain⟨j,a,rfl⟩:=K7.1 hx;have:=h j a;simpa[J5,a]using this
theorem d0w{q:Cr->Bool}{l:List Cr}{i:Nat}(hi:i<l.length)(h:l.any q=false):q (l.getD i d0)=false:=by rw[Jx]at h;have:=h l[i] (Kb hi);simpa[J5,hi]using this
theorem b4n{l:List Cr}{i:Nat}(hi:i<l.length):l.getD i d0∈l:=by simp[hi]
theorem b1d{W H i e:Int}(h:AP W H=0)(b:AU W H i e=0):0<=i/\i<1024:=by
 have a:KO W H i=0:=by
  unfold AU at b;split at b
  .assumption
  .exact b
 unfold KO at a;rw[J7 h]at a;split at a
 .rename_i c;obtain⟨h1,h2,h3,h4,h5,h6,h7⟩:=QP h;simp[SO]at c;omega
 .cases a
def PD(p:Pt)(x:Cr):Bool:= !decide (AU p.W p.H x.c x.e=0)|| !(decide (EA p.W p.H x.c x.e=x.c)&&(decide (ET p.W p.H x.c x.e=x.e)&&true))
def OJ(p:Pt)(i:Nat):Bool:=decide (0<=Io (p.l.getD i d0).c (p.l.getD i d0).e (p.l.getD (i+1) d0).c (p.l.getD (i+1) d0).e)
def BG(p:Pt):Int:=if AP p.W p.H=0 then(if p.l.any LG then 1 else if p.l.any (PD p)then 7 else if(List.range (p.l.length-1)).any (OJ p)then 6 else 0)else 1
def YI:AK
 | [x]=>match NS x with
   |some (a,p)=>some (a/\∀c∈p.l,AD .u8 c.e,.int .i64 (BG p))
   |none=>none
 |_=>none
def f7u:Fam:=⟨Pt,λp=>[ID p],λp=>p.l.length<=100000/\∀c∈p.l,AD .u8 c.e,λp=>.int .i64 (BG p)⟩
def f84(p:Pt):Nat->Option Inv
 |7=>some {β:=Nat,ok:=λi=>i<=p.l.length/\AP p.W p.H=0/\p.l.any LG=false/\∀j,j<i->PD p (p.l.getD j d0)=false,st:=λi=>⟨[⟨21,none,.int .i64 i⟩,⟨20,none,.int .i64 p.l.length⟩,⟨19,none,.sl 3 p.l.length (DU p.l) none⟩,⟨1,none,.own 0 0⟩],[.cells 29 [.int .i64 p.W,.int .i64 p.H,.sl 3 p.l.length (DU p.l) none]]⟩,μ:=λi=>p.l.length-i}
 |14=>some {β:=Nat,ok:=λi=>1<=i/\(i=1\/i<=p.l.length)/\AP p.W p.H=0/\p.l.any LG=false/\p.l.any (PD p)=false/\∀j,j+1<i->OJ p j=false,st:=λi=>⟨[⟨8,none,.int .i64 i⟩,⟨1,none,.own 0 0⟩],[.cells 29 [.int .i64 p.W,.int .i64 p.H,.sl 3 p.l.length (DU p.l) none]]⟩,μ:=λi=>p.l.length+1-i}
 |_=>none
theorem d3c:PS 116 YI:=by
 refine con [(96,Pu),(154,b2w),(157,Sy),(158,Ye),(159,Wm)] (by simpa using⟨TY,d2j,d97,pUnit,f3c⟩) f7u (λp=>f84 p) YI ?_ ?_ Tryz.func116 Dy Dy Dy ?_
 .intro args pre s h hp;unfold YI at h;split at h
  .split at h
   .rename_i a p hx;cases h;exact Cx
   .cases h
  .cases h
 .exact By
 .rintro(p:Pt) hp;replace hp:p.l.length<=100000/\∀c∈p.l,AD .u8 c.e:=hp;refine X0a _ ?_;(repeat' first|constructor|intro h)<;>refine Lm ?_
  .simp at h;rw[BG,J8 h];exact(b4f p.W p.H).resolve_left h
  .exact⟨Do _,hp.1⟩
  .rename_i n;simp at n;rw[CI]at h;rw[BG,J7 n,J7 h]
  .rename_i n;simp at n;rw[CI]at h;refine⟨(0:Nat),⟨Dx,n,h,λj hj=>Dx⟩,?_,?_⟩
   .exact X0d
   .rintro i ⟨f7,b,g,r⟩;refine X0a _ ?_;(repeat' first|constructor|intro h)<;>refine Lm ?_
    .simp at h;omega
    .simp at h;have:=hp.2 _ (b4n (i:=i) h);simp only[AD]at this;exact this.1
    .rename_i d;simp at d;have e:PD p (p.l.getD i d0)=true:=h;rw[BG,J7 b,J8 (by simp[g]),J7 (f61 d e)]
    .simp only[AD];omega
    .rename_i d;simp at d;refine⟨i+1,⟨Dx,b,g,λj hj=> ?_⟩,Dx,?_⟩
     .by_cases e:j=i
      .subst e;exact h
      .exact r j Dx
     .exact X0g
    .simp at h;have m:p.l.any (PD p)=false:=d7z (λj hj=>r j Dx);refine⟨(1:Nat),⟨Dx,.inl rfl,b,g,m,λj hj=>Dx⟩,?_,?_⟩
     .exact X0d
     .rintro k ⟨k1,k2,-,-,-,k3⟩;refine X0a _ ?_;(repeat' first|constructor|intro h)<;>refine Lm ?_
      all_goals(try(simp only[AD];omega))
      all_goals(try(simp at h;omega))
      .simp at h;have o:((k:Int)-1).toNat=k-1:=Dx;rw[o,Jn];have t:=d0w (i:=k-1) Dx m;have u:=d0w (i:=k) Dx m;simp only[PD,Lt,Bool.not_eq_false',Jh]at t u;have c1:=b1d b t.1;have c2:=b1d b u.1;refine⟨Fh,hp.2 _ (b4n Dx),hp.2 _ (b4n Dx)⟩
      all_goals(have o:((k:Int)-1).toNat=k-1:=Dx)
      all_goals(have v:k-1+1=k:=Dx)
      .rename_i d;simp at d;simp only[o,Jn]at h;have q:OJ p (k-1)=true:=by simp only[OJ,v];exact h
       have:(List.range (p.l.length-1)).any (OJ p)=true:=Jp.2 ⟨k-1,Ka.2 Dx,q⟩;rw[BG,J7 b,J8 (by simp[g]),J8 (by simp[m]),J7 this]
      .rename_i d;simp at d;simp only[o,Jn]at h;have q:OJ p (k-1)=false:=by simp only[OJ,v];exact h
       refine⟨k+1,⟨Dx,Dx,b,g,m,λj hj=> ?_⟩,Dx,?_⟩
       .by_cases e:j=k-1
        .subst e;exact q
        .exact k3 j Dx
       .exact X0g
      .simp at h;have:(List.range (p.l.length-1)).any (OJ p)=false:=by
        rw[Jx];intro j hj;have:=k3 j Hb;simp[this]
       rw[BG,J7 b,J8 (by simp[g]),J8 (by simp[m]),J8 (by simp[this])]
def Tm(W H i e:Int):Int:=if Ph W H i e=0 then RF (NG W H i e (i/4%W)) (NG W H i e (i/4/W)) (NG W H i e (i%4)) e else Ph W H i e
def Tt(W H i e:Int):Int:=if Ph W H i e=0 then keep (Tm W H i e) (DB (i%4) e)else 0
def UZ(W H i e:Int):Int:=if Ph W H i e=0 then keep (Tm W H i e) (DF (i/4%W) (i/4/W) (i%4) e)else 0
def b1r:AK
 | [.agg [.int .i64 W,.int .i64 H],.agg [.int .i64 i,.int .u8 e]]=>some (0<=e,.tup [.agg [.int .u8 (Tt W H i e),.int .i64 (UZ W H i e)],.int .i64 (Tm W H i e)])
 |_=>none
def b7n:Fam:=⟨Int×Int×Int×Int,λ(W,H,i,e)=>[.agg [.int .i64 W,.int .i64 H],.agg [.int .i64 i,.int .u8 e]],λ(_,_,_,e)=>0<=e,λ(W,H,i,e)=>.tup [.agg [.int .u8 (Tt W H i e),.int .i64 (UZ W H i e)],.int .i64 (Tm W H i e)]⟩
theorem d0t:PS 162 b1r:=by
 refine con [(194,c5y),(195,b2f)] (by simpa using⟨pNamed,d26⟩) b7n (λ_ _=>none) b1r ?_ ?_ Tryz.func162 Dy Dy Dy ?_
 .intro args pre s h a;unfold b1r at h;split at h
  .rename_i W H i e;cases h;exact⟨(W,H,i,e),by simp[b7n,BT,SV.le2,SV.le1,BM,SV.le0],a,rfl⟩
  .cases h
 .exact Bx
 .rintro⟨W,H,i,e⟩ a;replace a:0<=e:=a;refine X0a _ ?_;(repeat' first|constructor|intro h)<;>refine Lm ?_
  all_goals(have z:0<=NG W H i e (i%4):=by(unfold NG;split<;>omega))
  all_goals(first|grind|grind[Tm,Tt,UZ,NG,keep])
def c8s:AK
 | [.agg [.int .i64 a,.int .u8 b,.int .u8 _],.agg [.int .i64 c,.int .u8 d]]=>some (AD .i64 (a-c)/\AD .u8 b/\AD .u8 d,.int .i64 (Io a b c d))
 |_=>none
def f34:Fam:=⟨Int×Int×Int×Int×Int,λ(a,b,k,c,d)=>[.agg [.int .i64 a,.int .u8 b,.int .u8 k],.agg [.int .i64 c,.int .u8 d]],λ(a,b,_,c,d)=>AD .i64 (a-c)/\AD .u8 b/\AD .u8 d,λ(a,b,_,c,d)=>.int .i64 (Io a b c d)⟩
theorem pFind1:PS 237 c8s:=by
 refine con [(158,Ye),(159,Wm)] (by simpa using⟨pUnit,f3c⟩) f34 (λ_ _=>none) c8s ?_ ?_ Tryz.func237 Dy Dy Dy ?_
 .intro args pre s h e;unfold c8s at h;split at h
  .rename_i a b k c d;cases h;exact⟨(a,b,k,c,d),by simp[f34,BT,SV.le2,SV.le1,BM,SV.le0],e,rfl⟩
  .cases h
 .exact Bx
 .rintro⟨a,b,k,c,d⟩ e;replace e:AD .i64 (a-c)/\AD .u8 b/\AD .u8 d:=e;refine X0a _ ?_;(repeat' first|constructor|intro h)<;>refine Lm ?_
  all_goals(first|exact e|rfl)
def KR(x:Cr)(a b:Int):Int:=Io x.c x.e a b
def IL(l:List Cr)(a b:Int):Nat:=(l.takeWhile λx=>decide (KR x a b<0)).length
def LJ(l:List Cr)(a b:Int):Bool:=and (decide ((IL l a b:Int)<l.length)) (decide (KR (l.getD (IL l a b) d0) a b=0))
theorem c8e{a b:Int}:∀(l:List Cr) (i:Nat),i<=l.length->(∀k,k<i->KR (l.getD k d0) a b<0)->(i<l.length->0<=KR (l.getD i d0) a b)->IL l a b=i
 | [],i,h,_,_=>by simp at h;simp[IL,h]
 |x::l,0,_,_,h=>by have:=h Dz;simp at this;have:¬KR x a b<0:=Dx;simp[IL,this]
 |x::l,i+1,h,c,f=>by have:=c 0 Dx;simp at this;have d:=c8e l i E4 (λk e=>by simpa using c (k+1) Dx) (λe=>by simpa using f (by simpa using e));simp only[IL]at d⊢;simp[this,d]
def SR(l:List Cr):Prop:=∀i j,i<j->j<l.length->Io (l.getD i d0).c (l.getD i d0).e (l.getD j d0).c (l.getD j d0).e<0
def Sl(l:List Cr):Prop:=∀x∈l,0<=x.c/\x.c<=2000/\AD .u8 x.e
def kBs:AK
 | [x,.agg [.int .i64 a,.int .u8 b],.clo g []]=>if g=237 then match NU x with
   |some (n,f)=>some ((KZ n f/\n<=100000)/\SR (DZ n f)/\Sl (DZ n f)/\0<=a/\a<=2000/\AD .u8 b,.tup [.int .i64 (IL (DZ n f) a b),.bool (LJ (DZ n f) a b)])
   |none=>none
   else none
 |_=>none
def FBs:Fam:=⟨List Cr×Int×Int,λ(l,a,b)=>[.sl 3 l.length (DU l) none,.agg [.int .i64 a,.int .u8 b],.clo 237 []],λ(l,a,b)=>l.length<=100000/\SR l/\Sl l/\0<=a/\a<=2000/\AD .u8 b,λ(l,a,b)=>.tup [.int .i64 (IL l a b),.bool (LJ l a b)]⟩
def IBs:List Cr×Int×Int->Nat->Option Inv
 |(l,a,b),3=>some {β:=Nat×Nat,ok:=λ(i,j)=>i<=j/\j<=l.length/\(∀k,k<i->KR (l.getD k d0) a b<0)/\∀k,j<=k->k<l.length->0<=KR (l.getD k d0) a b,st:=λ(i,j)=>⟨[⟨10,none,.int .i64 j⟩,⟨9,none,.int .i64 i⟩,⟨8,none,.int .i64 l.length⟩,⟨7,none,.bool false⟩,⟨6,none,.int .i64 0⟩,⟨4,none,.own 0 0⟩,⟨2,none,.clo 237 []⟩,⟨0,none,.sl 3 l.length (DU l) none⟩],[.cells 100 [.int .i64 a,.int .u8 b]]⟩,μ:=λ(i,j)=>j-i}
 |_,_=>none
theorem pBs:PS 236 kBs:=by
 refine con [(237,c8s)] (by simpa using pFind1) FBs IBs kBs ?_ ?_ Tryz.func236 Dy Dy Dy ?_
 .intro args pre s h d;unfold kBs at h;split at h
  .split at h
   .rename_i z;subst z;split at h
    .rename_i n f hx;rename_i a b _;cases h;exact⟨(DZ n f,a,b),⟨IW (QH hx d.1.1),Ed,⟨rfl,rfl⟩,Ja⟩,⟨by simp only[RP];exact d.1.2,d.2⟩,rfl⟩
    .cases h
   .cases h
  .cases h
 .exact Bz
 .rintro⟨l,a,b⟩ d;replace d:l.length<=100000/\SR l/\Sl l/\0<=a/\a<=2000/\AD .u8 b:=d;refine X0a _ ?_;(repeat' first|constructor|intro h)<;>refine Lm ?_
  refine⟨((0:Nat),l.length),⟨Dx,Dx,λk m=>Dx,λk v o=>Dx⟩,?_,?_⟩
  .exact X0d
  .rintro⟨i,j⟩ ⟨v,o,r,t⟩;replace v:i<=j:=v;replace o:j<=l.length:=o;replace r:∀k,k<i->KR (l.getD k d0) a b<0:=r;replace t:∀k,j<=k->k<l.length->0<=KR (l.getD k d0) a b:=t;have g:((i:Int)+j)/2^Int.toNat 1=(((i+j)/2:Nat):Int):=by
    have:(2:Int)^Int.toNat 1=2:=rfl;rw[this];omega
   have w:∀k,k<l.length->AD .i64 ((l.getD k d0).c-a)/\AD .u8 (l.getD k d0).e/\AD .u8 b:=λk m=>by have q:=d.2.2.1 _ (b4n m);exact⟨Fh,q.2.2,d.2.2.2.2.2⟩
   refine X0a _ ?_;(repeat' first|constructor|intro h)<;>refine Lm ?_
   all_goals(first
    |(have x:i<j:=by simpa using(by assumption:decide ((i:Int)<(j:Int))=true)
      first
      |exact A4
      |decide
      |(rw[g];simp only[AD];omega)
      |(rw[g];omega)
      |(rw[g,Jn];exact w _ Dx)
      |(rw[g,Jn]at h
        have h:KR (l.getD ((i+j)/2) d0) a b<0:=Kj h;refine⟨((i+j)/2+1,j),⟨Fx,o,λk m=> ?_,t⟩,by show j-((i+j)/2+1)<j-i;omega,?_⟩
        .replace m:k<(i+j)/2+1:=m;by_cases e:k=(i+j)/2
         .rw[e];exact h
         .have q:=d.2.1 k ((i+j)/2) Dx Dx;unfold KR at h⊢;unfold Io at h q⊢;grind)
      |(rw[g,Jn]at h
        have h:0<=KR (l.getD ((i+j)/2) d0) a b:=Int.not_lt.1 (Lu h);refine⟨(i,(i+j)/2),⟨Fy,by show (i+j)/2<=l.length;omega,r,λk k1 k2=> ?_⟩,by show (i+j)/2-i<j-i;omega,?_⟩
        .replace k1:(i+j)/2<=k:=k1;by_cases e:k=(i+j)/2
         .rw[e];exact h
         .have q:=d.2.1 ((i+j)/2) k Dx Dx;unfold KR at h⊢;unfold Io at h q⊢;grind))
    |(have x:i=j:=by(have:¬((i:Int)<(j:Int)):=by simpa using(by assumption:decide ((i:Int)<(j:Int))=false));omega
      subst x;have y:=c8e l i o r (λk=>t i (Jf _) k);first
      |(intro q;(have q:i<l.length:=by simpa using q);omega)
      |(intro q;(have q:i<l.length:=by simpa using q);exact w i q)
      |(rw[y])
      |(unfold LJ;rw[y];rfl))
    |skip)
   all_goals refine X0a _ ?_;(repeat' first|constructor|intro h)<;>refine Lm ?_
   all_goals first|exact A6|(rw[g];rfl)|(rw[g];omega)|skip
def d7u:AK
 | [x,.agg [.int .i64 a,.int .u8 b]]=>match NU x with
   |some (n,f)=>some ((KZ n f/\n<=100000)/\SR (DZ n f)/\Sl (DZ n f)/\0<=a/\a<=2000/\AD .u8 b,.tup [.int .i64 (IL (DZ n f) a b),.bool (LJ (DZ n f) a b)])
   |none=>none
 |_=>none
def FFind:Fam:=⟨List Cr×Int×Int,λ(l,a,b)=>[.sl 3 l.length (DU l) none,.agg [.int .i64 a,.int .u8 b]],λ(l,a,b)=>l.length<=100000/\SR l/\Sl l/\0<=a/\a<=2000/\AD .u8 b,λ(l,a,b)=>.tup [.int .i64 (IL l a b),.bool (LJ l a b)]⟩
theorem pFind:PS 204 d7u:=by
 refine con [(236,kBs)] (by simpa using pBs) FFind (λ_ _=>none) d7u ?_ ?_ Tryz.func204 Dy Dy Dy ?_
 .intro args pre s h c;unfold d7u at h;split at h
  .split at h
   .rename_i n f hx;rename_i a b _;cases h;exact⟨(DZ n f,a,b),⟨IW (QH hx c.1.1),Ed,Ja⟩,⟨by simp only[RP];exact c.1.2,c.2⟩,rfl⟩
   .cases h
  .cases h
 .exact Bx
 .rintro⟨l,a,b⟩ c;replace c:l.length<=100000/\SR l/\Sl l/\0<=a/\a<=2000/\AD .u8 b:=c;refine X0a _ ?_;(repeat' first|constructor|intro h)<;>refine Lm ?_
  all_goals(try rw[CI])
  all_goals(first|rfl|exact⟨⟨Do _,c.1⟩,c.2⟩|skip)
theorem FI{p:Pt}(h:BG p=0):AP p.W p.H=0/\p.l.any LG=false/\p.l.any (PD p)=false/\(List.range (p.l.length-1)).any (OJ p)=false:=by unfold BG at h;grind
theorem d0j{a b c d e f:Int}(h:Io a b c d<0)(k:Io c d e f<0):Io a b e f<0:=by unfold Io at*;grind
theorem b8r{p:Pt}(h:BG p=0):SR p.l:=by
 obtain⟨_,_,_,a⟩:=FI h;rw[Jx]at a;have step:∀i,i+1<p.l.length->Io (p.l.getD i d0).c (p.l.getD i d0).e (p.l.getD (i+1) d0).c (p.l.getD (i+1) d0).e<0:=λi hi=>by have:=a i (Ka.2 Dx);simp[OJ]at this;simpa using this
 intro i j f6;induction j with
 |zero=>omega
 |succ j d=>
  intro b;by_cases e:i=j
  .subst e;exact step i b
  .exact d0j (d Dx Dx) (step j b)
theorem f1k{p:Pt}(h:BG p=0)(b:∀c∈p.l,AD .u8 c.e):Sl p.l:=by obtain⟨d,_,a,_⟩:=FI h;intro x hx;rw[Jx]at a;have:=a x hx;simp[PD]at this;have q:=b1d d this.1;exact⟨q.1,Dx,b x hx⟩
theorem nm_le{W H i e:Int}(hs:AP W H=0)(h:AU W H i e=0):0<=EA W H i e/\EA W H i e<=2000:=by
 have q:=b1d hs h;have z:=b86 (b3f h);have v:0<=AF W H i e:=by
  unfold AF;split
  .split
   .unfold QO;split
    .rename_i b;have w:∀X Y Q:Int,LQ W H X Y Q=0->0<=Q->0<=4*(Y*W+X)+Q:=λX Y Q h hQ=>by
      unfold LQ at h;rw[J7 hs]at h;split at h
      .rename_i a;have:=f8d (X:=X) (Y:=Y) hs a.2.1 a.2.2.1 a.2.2.2.1 a.2.2.2.2;omega
      .cases h
     refine w _ _ _ b ?_;have q3:=(TL W H i).1;unfold Ho;split
     .unfold EM;have:∀l:List Int,(∀x∈l,0<=x)->∀n,0<=l.getD n 0:=λl c n=>by
       rw[J5];cases hh:l[n]? with
       |none=>simp
       |some y=>exact c y (Jb hh)
      refine this _ (λx hx=> ?_) _;simp only[Ji,List.mem_nil_iff,or_false]at hx;rcases hx with rfl|rfl|rfl<;>exact this _ E1 _
     .omega
    .omega
   .omega
  .omega
 unfold EA;rw[J7 h];omega
def IK(p:Pt)(i e:Int):Int:=if BG p=0 then AU p.W p.H i e else BG p
def Wv(p:Pt)(i e:Int):Int:=if IK p i e=0 then EA p.W p.H i e else 0
def YL(p:Pt)(i e:Int):Int:=if IK p i e=0 then ET p.W p.H i e else 0
def LK(p:Pt)(i e:Int):Int:=if IK p i e=0 then(IL p.l (EA p.W p.H i e) (ET p.W p.H i e):Int)else 0
def LO(p:Pt)(i e:Int):Bool:=bif decide (IK p i e=0)then LJ p.l (EA p.W p.H i e) (ET p.W p.H i e)else false
def kAt:AK
 | [x,.int .i64 i,.int .u8 e]=>match NS x with
   |some (a,p)=>some (a/\(∀c∈p.l,AD .u8 c.e)/\0<=e/\e<=255,.tup [.agg [.int .i64 (Wv p i e),.int .u8 (YL p i e)],.int .i64 (LK p i e),.bool (LO p i e),.int .i64 (IK p i e)])
   |none=>none
 |_=>none
def FAt:Fam:=⟨Pt×Int×Int,λ(p,i,e)=>[ID p,.int .i64 i,.int .u8 e],λ(p,_,e)=>p.l.length<=100000/\(∀c∈p.l,AD .u8 c.e)/\0<=e/\e<=255,λ(p,i,e)=>.tup [.agg [.int .i64 (Wv p i e),.int .u8 (YL p i e)],.int .i64 (LK p i e),.bool (LO p i e),.int .i64 (IK p i e)]⟩
theorem pAt:PS 180 kAt:=by
 refine con [(116,YI),(157,Sy),(204,d7u)] (by simpa using⟨d3c,d97,pFind⟩) FAt (λ_ _=>none) kAt ?_ ?_ Tryz.func180 Dy Dy Dy ?_
 .intro args pre s h hp;unfold kAt at h;split at h
  .split at h
   .rename_i a p hx;rename_i i e _;cases h;exact Dk
   .cases h
  .cases h
 .exact Bz
 .rintro⟨p,i,e⟩ hp;replace hp:p.l.length<=100000/\(∀c∈p.l,AD .u8 c.e)/\0<=e/\e<=255:=hp;refine X0a _ ?_;(repeat' first|constructor|intro h)<;>refine Lm ?_
  all_goals(try simp only[CI]at*)
  all_goals(have g:=@nm_le p.W p.H i e;have j:=@FI p;have k:=@b8r p;have hs:=@f1k p)
  all_goals(have m:AU p.W p.H i e=0->ET p.W p.H i e=e:=λh=>by(unfold ET;rw[if_pos h]))
  all_goals(first
   |exact⟨⟨Do _,hp.1⟩,hp.2.1⟩
   |exact hp.2.2.1
   |(have b:BG p=0:=by simpa using(by assumption:(!decide (BG p=0))=false)
     have d:AU p.W p.H i e=0:=by simpa using(by assumption:(!decide (AU p.W p.H i e=0))=false)
     have f:=g (j b).1 d;first
     |(refine⟨⟨Do _,hp.1⟩,k b,hs b hp.2.1,f.1,f.2,?_⟩;rw[m d];exact⟨hp.2.2.1,hp.2.2.2⟩)
     |simp[IK,Wv,YL,LK,LO,b,d])
   |(have b:BG p=0:=by simpa using(by assumption:(!decide (BG p=0))=false)
     have d:¬AU p.W p.H i e=0:=by simpa using(by assumption:(!decide (AU p.W p.H i e=0))=true)
     simp[IK,Wv,YL,LK,LO,b,d];done)
   |(have b:¬BG p=0:=by simpa using(by assumption:(!decide (BG p=0))=true)
     simp[IK,Wv,YL,LK,LO,b];done)
   |skip)
theorem ptEta(p:Pt):(⟨p.W,p.H,p.l⟩:Pt)=p:=rfl
def AZ(p:Pt)(i e:Int):Int:=bif LO p i e then(p.l.getD (IL p.l (EA p.W p.H i e) (ET p.W p.H i e)) d0).k else 0
def c6a:AK
 | [x,.int .i64 i,.int .u8 e]=>match NS x with
   |some (a,p)=>some (a/\(∀c∈p.l,AD .u8 c.e)/\0<=e/\e<=255,.tup [.int .u8 (AZ p i e),.int .i64 (IK p i e)])
   |none=>none
 |_=>none
def FPKind:Fam:=⟨Pt×Int×Int,λ(p,i,e)=>[ID p,.int .i64 i,.int .u8 e],λ(p,_,e)=>p.l.length<=100000/\(∀c∈p.l,AD .u8 c.e)/\0<=e/\e<=255,λ(p,i,e)=>.tup [.int .u8 (AZ p i e),.int .i64 (IK p i e)]⟩
theorem pPKind:PS 137 c6a:=by
 refine con [(180,kAt)] (by simpa using pAt) FPKind (λ_ _=>none) c6a ?_ ?_ Tryz.func137 Dy Dy Dy ?_
 .intro args pre s h hp;unfold c6a at h;split at h
  .split at h
   .rename_i a p hx;rename_i i e _;cases h;exact Dk
   .cases h
  .cases h
 .exact Bz
 .rintro⟨p,i,e⟩ hp;replace hp:p.l.length<=100000/\(∀c∈p.l,AD .u8 c.e)/\0<=e/\e<=255:=hp;refine X0a _ ?_;(repeat' first|constructor|intro h)<;>refine Lm ?_
  all_goals(try simp only[CI,ptEta]at*)
  all_goals(have g:LO p i e=true->IK p i e=0/\LJ p.l (EA p.W p.H i e) (ET p.W p.H i e)=true:=λh=>by(unfold LO at h;grind))
  all_goals(first
   |exact⟨⟨Do _,hp.1⟩,hp.2⟩
   |rfl
   |(have d:LO p i e=true:=by grind
     have b:=g d;have f:LK p i e=(IL p.l (EA p.W p.H i e) (ET p.W p.H i e):Int):=by unfold LK;rw[if_pos b.1]
     first
     |(show 0<=LK p i e/\LK p i e<_
       rw[f];have q:=b.2;unfold LJ at q;grind)
     |(show (p.l.getD (LK p i e).toNat d0).k=_
       rw[f,Jn];unfold AZ;rw[d,cond_true])
     |exact b.1.symm)
   |(have d:IK p i e=0->LO p i e=false:=by grind
     have b:LO p i e=false:=by grind
     unfold AZ;rw[b,cond_false])
   |skip)
theorem cl_eta(c:Cl):(⟨c.x,c.y,c.q⟩:Cl)=c:=rfl
def EV(b:Bd)(u e:Int):Cl:=
 ⟨keep (HG (b.pl.getD u.toNat AE.d).t (b.pl.getD u.toNat AE.d).x (b.pl.getD u.toNat AE.d).y (JE (BW b.p.W b.p.H u) (BX b.p.W b.p.H u) (BZ b.p.W b.p.H u) e) (JG (BW b.p.W b.p.H u) (BX b.p.W b.p.H u) (BZ b.p.W b.p.H u) e) (Ho (BW b.p.W b.p.H u) (BX b.p.W b.p.H u) (BZ b.p.W b.p.H u) e)) (LD (b.pl.getD u.toNat AE.d).t (b.pl.getD u.toNat AE.d).x (b.pl.getD u.toNat AE.d).y (JE (BW b.p.W b.p.H u) (BX b.p.W b.p.H u) (BZ b.p.W b.p.H u) e) (JG (BW b.p.W b.p.H u) (BX b.p.W b.p.H u) (BZ b.p.W b.p.H u) e)),
  keep (HG (b.pl.getD u.toNat AE.d).t (b.pl.getD u.toNat AE.d).x (b.pl.getD u.toNat AE.d).y (JE (BW b.p.W b.p.H u) (BX b.p.W b.p.H u) (BZ b.p.W b.p.H u) e) (JG (BW b.p.W b.p.H u) (BX b.p.W b.p.H u) (BZ b.p.W b.p.H u) e) (Ho (BW b.p.W b.p.H u) (BX b.p.W b.p.H u) (BZ b.p.W b.p.H u) e)) (LU (b.pl.getD u.toNat AE.d).t (b.pl.getD u.toNat AE.d).x (b.pl.getD u.toNat AE.d).y (JE (BW b.p.W b.p.H u) (BX b.p.W b.p.H u) (BZ b.p.W b.p.H u) e) (JG (BW b.p.W b.p.H u) (BX b.p.W b.p.H u) (BZ b.p.W b.p.H u) e)),
  keep (HG (b.pl.getD u.toNat AE.d).t (b.pl.getD u.toNat AE.d).x (b.pl.getD u.toNat AE.d).y (JE (BW b.p.W b.p.H u) (BX b.p.W b.p.H u) (BZ b.p.W b.p.H u) e) (JG (BW b.p.W b.p.H u) (BX b.p.W b.p.H u) (BZ b.p.W b.p.H u) e) (Ho (BW b.p.W b.p.H u) (BX b.p.W b.p.H u) (BZ b.p.W b.p.H u) e)) (KN (b.pl.getD u.toNat AE.d).t (Ho (BW b.p.W b.p.H u) (BX b.p.W b.p.H u) (BZ b.p.W b.p.H u) e))⟩
def Dl(b:Bd)(u:Int):Cl:=b.im.getD u.toNat DE.d
theorem oth_eq(b:Bd)(u e:Int):(⟨keep (HG (b.pl.getD u.toNat AE.d).t (b.pl.getD u.toNat AE.d).x (b.pl.getD u.toNat AE.d).y (JE (BW b.p.W b.p.H u) (BX b.p.W b.p.H u) (BZ b.p.W b.p.H u) e) (JG (BW b.p.W b.p.H u) (BX b.p.W b.p.H u) (BZ b.p.W b.p.H u) e) (Ho (BW b.p.W b.p.H u) (BX b.p.W b.p.H u) (BZ b.p.W b.p.H u) e)) (LD (b.pl.getD u.toNat AE.d).t (b.pl.getD u.toNat AE.d).x (b.pl.getD u.toNat AE.d).y (JE (BW b.p.W b.p.H u) (BX b.p.W b.p.H u) (BZ b.p.W b.p.H u) e) (JG (BW b.p.W b.p.H u) (BX b.p.W b.p.H u) (BZ b.p.W b.p.H u) e)),keep (HG (b.pl.getD u.toNat AE.d).t (b.pl.getD u.toNat AE.d).x (b.pl.getD u.toNat AE.d).y (JE (BW b.p.W b.p.H u) (BX b.p.W b.p.H u) (BZ b.p.W b.p.H u) e) (JG (BW b.p.W b.p.H u) (BX b.p.W b.p.H u) (BZ b.p.W b.p.H u) e) (Ho (BW b.p.W b.p.H u) (BX b.p.W b.p.H u) (BZ b.p.W b.p.H u) e)) (LU (b.pl.getD u.toNat AE.d).t (b.pl.getD u.toNat AE.d).x (b.pl.getD u.toNat AE.d).y (JE (BW b.p.W b.p.H u) (BX b.p.W b.p.H u) (BZ b.p.W b.p.H u) e) (JG (BW b.p.W b.p.H u) (BX b.p.W b.p.H u) (BZ b.p.W b.p.H u) e)),keep (HG (b.pl.getD u.toNat AE.d).t (b.pl.getD u.toNat AE.d).x (b.pl.getD u.toNat AE.d).y (JE (BW b.p.W b.p.H u) (BX b.p.W b.p.H u) (BZ b.p.W b.p.H u) e) (JG (BW b.p.W b.p.H u) (BX b.p.W b.p.H u) (BZ b.p.W b.p.H u) e) (Ho (BW b.p.W b.p.H u) (BX b.p.W b.p.H u) (BZ b.p.W b.p.H u) e)) (KN (b.pl.getD u.toNat AE.d).t (Ho (BW b.p.W b.p.H u) (BX b.p.W b.p.H u) (BZ b.p.W b.p.H u) e))⟩:Cl)=EV b u e:=rfl
theorem im_eq(b:Bd)(u:Int):b.im.getD u.toNat DE.d=Dl b u:=rfl
def HL(b:Bd)(u e:Int)(s:Sm):Sm:=
 if AU b.p.W b.p.H u e=0 then
  if AF b.p.W b.p.H u e<u then s
  else if AZ b.p u e=0 then {s with ps:=s.ps++[if Dl b u=s.b then⟨AF b.p.W b.p.H u e,u⟩else⟨u,AF b.p.W b.p.H u e⟩]}
  else {s with ls:=s.ls++[⟨if Dl b u=s.b then 1 else 0,if b.ht.getD u.toNat 0<b.ht.getD (AF b.p.W b.p.H u e).toNat 0 then u else AF b.p.W b.p.H u e,if b.ht.getD u.toNat 0<b.ht.getD (AF b.p.W b.p.H u e).toNat 0 then AF b.p.W b.p.H u e else u⟩]}
 else {s with en:=s.en++[u]}
def GO(b:Bd)(u e:Int)(S:List Sm):List Sm:=
 let T:=DT S (Dl b u) (EV b u e)
 let i:=CQ T (IR (Dl b u) (EV b u e))
 T.set i (HL b u e (T.getD i BD))
theorem f8u(b:Bd)(u e:Int)(s:Sm):BU (HL b u e s)=BU s:=by
 unfold HL;split
 .split
  .rfl
  .split<;>rfl
 .rfl
theorem b1a{α:Type}{T:List α}{i j:Nat}{x d:α}(h:i<T.length):(T.set i x).getD j d=if j=i then x else T.getD j d:=by
 by_cases e:j=i
 .subst e;simp[h]
 .simp[Jk (Ne.symm e),e]
theorem b27(T:List Sm)(i:Nat)(s:Sm)(h:BU s=BU (T.getD i BD)):(T.set i s).map BU=T.map BU:=by
 apply M9;intro j;simp only[Jz];by_cases e:j=i
 .subst e;by_cases a:j<T.length
  .simp[a,h]
  .simp[a]
 .rw[Jk (Ne.symm e)]
theorem TX(S:List Sm)(q:List Int):DR S q=(S.map BU).any λk=>decide (k=q):=by simp[DR,List.any_map,Function.comp_def]
theorem WC(S:List Sm)(q:List Int):CQ S q=(S.map BU).findIdx λk=>decide (k=q):=by simp[CQ,List.findIdx_map,Function.comp_def]
theorem b45(b:Bd)(u e:Int)(S:List Sm):(GO b u e S).map BU=(DT S (Dl b u) (EV b u e)).map BU:=b27 _ _ _ (f8u b u e _)
theorem f09(b:Bd)(u e:Int)(S:List Sm):∀q,DR (DT S (Dl b u) (EV b u e)) q=DR (GO b u e S) q:=λq=>by rw[TX,TX,b45]
theorem d95(b:Bd)(u e:Int)(S:List Sm):∀q,DR (DT S (Dl b u) (EV b u e)) q=true->CQ (DT S (Dl b u) (EV b u e)) q=CQ (GO b u e S) q:=λq _=>by rw[WC,WC,b45]
theorem b4b(b:Bd)(u e:Int)(S:List Sm):(GO b u e S).length=(DT S (Dl b u) (EV b u e)).length:=by simp[GO]
theorem c1q{S T:List Sm}(h:S.map BU=T.map BU)(i:Nat)(hi:i<S.length):JZ S i=JZ T i:=by
 have a:S.length=T.length:=by simpa using Mf List.length h
 have e:BU (S.getD i BD)=BU (T.getD i BD):=by have:=Mf (λl=>l[i]?) h;simp only[Jz,J6 hi,J6 (a▸hi),Kh,K0]at this;simpa[J5,hi,a▸hi]using this
 simp only[BU,Ix]at e;obtain⟨b,c,d,f,g,j⟩:=e;simp only[JZ,b,c,d,f,g,j]
theorem d9a(b:Bd)(u e:Int)(S:List Sm):∀i,i<(DT S (Dl b u) (EV b u e)).length->JZ (DT S (Dl b u) (EV b u e)) i=JZ (GO b u e S) i:=λi a=>c1q (b45 b u e S).symm i a
theorem Rr(S:List Sm)(x y:Cl):DR (DT S x y) (IR x y)=true:=by
 unfold DT;split
 .assumption
 .simp[DR,IR,BU]
theorem c3q(b:Bd)(u e:Int)(S:List Sm):(GO b u e S).getD (CQ (DT S (Dl b u) (EV b u e)) (IR (Dl b u) (EV b u e))) BD=HL b u e ((DT S (Dl b u) (EV b u e)).getD (CQ (DT S (Dl b u) (EV b u e)) (IR (Dl b u) (EV b u e))) BD):=by unfold GO;rw[b1a (LY (Rr S _ _)),J7 rfl]
theorem d4m{b:Bd}{u e:Int}{S:List Sm}{j:Nat}(h:¬j=CQ (DT S (Dl b u) (EV b u e)) (IR (Dl b u) (EV b u e))):(GO b u e S).getD j BD=(DT S (Dl b u) (EV b u e)).getD j BD:=by unfold GO;rw[b1a (LY (Rr S _ _)),J8 h]
theorem d33{b:Bd}{u e:Int}{s:Sm}(h:(!decide (AU b.p.W b.p.H u e=0))=true):HL b u e s={s with en:=s.en++[u]}:=by have h:¬AU b.p.W b.p.H u e=0:=E4;unfold HL;rw[if_neg h]
theorem f26{b:Bd}{u e:Int}{s:Sm}(h:(!decide (AU b.p.W b.p.H u e=0))=false)(a:decide (AF b.p.W b.p.H u e<u)=true):HL b u e s=s:=by have h:AU b.p.W b.p.H u e=0:=E4;unfold HL;rw[if_pos h,if_pos (of_decide_eq_true a)]
theorem f2p{b:Bd}{u e:Int}{s:Sm}(h:(!decide (AU b.p.W b.p.H u e=0))=false)(a:decide (AF b.p.W b.p.H u e<u)=false)(c:AZ b.p u e=0):HL b u e s={s with ps:=s.ps++[if Dl b u=s.b then⟨AF b.p.W b.p.H u e,u⟩else⟨u,AF b.p.W b.p.H u e⟩]}:=by have h:AU b.p.W b.p.H u e=0:=E4;unfold HL;rw[if_pos h,if_neg (of_decide_eq_false a),if_pos c]
theorem c6b{b:Bd}{u e:Int}{s:Sm}(h:(!decide (AU b.p.W b.p.H u e=0))=false)(a:decide (AF b.p.W b.p.H u e<u)=false)(c:¬AZ b.p u e=0):HL b u e s={s with ls:=s.ls++[⟨if Dl b u=s.b then 1 else 0,if b.ht.getD u.toNat 0<b.ht.getD (AF b.p.W b.p.H u e).toNat 0 then u else AF b.p.W b.p.H u e,if b.ht.getD u.toNat 0<b.ht.getD (AF b.p.W b.p.H u e).toNat 0 then AF b.p.W b.p.H u e else u⟩]}:=by have h:AU b.p.W b.p.H u e=0:=E4;unfold HL;rw[if_pos h,if_neg (of_decide_eq_false a),if_neg c]
theorem WA{α:Type}{R:RT α}{l:List α}{x:α}{c:List SV}(a:c=R.sv x):∀i,i<l.length+1->(if i<l.length then R.row l i else(List.map (λx:Nat×List SV=>x.snd) [(0,c)].reverse).getD (i-l.length) [])=R.row (l++[x]) i:=by
 intro i hi;by_cases h:i<l.length
 .rw[J7 h,b0a R h]
 .have:i=l.length:=Dx;subst this;rw[J8 h,Kw,b09,a];rfl
theorem mem_en{s:Sm}{x:Int}{c:List SV}{m:Mem}(h:m=⟨(JX s).cs,[(s.ps.length,CE.row s.ps),(s.ls.length,BR.row s.ls),(s.en.length+1,λi=>if i<s.en.length then AC.row s.en i else(List.map (λx:Nat×List SV=>x.snd) [(0,c)].reverse).getD (i-s.en.length) [])]⟩)(a:c=AC.sv x):m.le (JX {s with en:=s.en++[x]}):=by subst h;exact⟨rfl,rfl,λ_ _=>rfl,rfl,λ_ _=>rfl,Dz,WA a,Ja⟩
theorem f2x{s:Sm}{x:Pa}{c:List SV}{m:Mem}(h:m=⟨(JX s).cs,[(s.ps.length+1,λi=>if i<s.ps.length then CE.row s.ps i else(List.map (λx:Nat×List SV=>x.snd) [(0,c)].reverse).getD (i-s.ps.length) []),(s.ls.length,BR.row s.ls),(s.en.length,AC.row s.en)]⟩)(a:c=CE.sv x):m.le (JX {s with ps:=s.ps++[x]}):=by subst h;exact⟨rfl,Dz,WA a,rfl,λ_ _=>rfl,rfl,λ_ _=>rfl,Ja⟩
theorem f3t{s:Sm}{x:Lo}{c:List SV}{m:Mem}(h:m=⟨(JX s).cs,[(s.ps.length,CE.row s.ps),(s.ls.length+1,λi=>if i<s.ls.length then BR.row s.ls i else(List.map (λx:Nat×List SV=>x.snd) [(0,c)].reverse).getD (i-s.ls.length) []),(s.en.length,AC.row s.en)]⟩)(a:c=BR.sv x):m.le (JX {s with ls:=s.ls++[x]}):=by subst h;exact⟨rfl,rfl,λ_ _=>rfl,Dz,WA a,rfl,λ_ _=>rfl,Ja⟩
theorem cl_of{a b:Cl}(h:(decide (a.x=b.x)&&(decide (a.y=b.y)&&decide (a.q=b.q)))=true):a=b:=by obtain⟨x,y,q⟩:=a;obtain⟨x',y',q'⟩:=b;simp at h;obtain⟨rfl,rfl,rfl⟩:=h;rfl
theorem f4v{a b:Cl}(h:(decide (a.x=b.x)&&(decide (a.y=b.y)&&decide (a.q=b.q)))=false):¬a=b:=by rintro rfl;simp at h
theorem d7h{b:Bd}{u e:Int}{s:Sm}(h:(!decide (AU b.p.W b.p.H u e=0))=false)(c:decide (AF b.p.W b.p.H u e<u)=false)(f:decide (AZ b.p u e=0)=false)(a:decide (b.ht.getD u.toNat AC.d<b.ht.getD (AF b.p.W b.p.H u e).toNat AC.d)=true):HL b u e s={s with ls:=s.ls++[⟨if Dl b u=s.b then 1 else 0,u,AF b.p.W b.p.H u e⟩]}:=by have a:b.ht.getD u.toNat 0<b.ht.getD (AF b.p.W b.p.H u e).toNat 0:=Kj a;rw[c6b h c (Lu f),J7 a,J7 a]
theorem d2w{b:Bd}{u e:Int}{s:Sm}(h:(!decide (AU b.p.W b.p.H u e=0))=false)(c:decide (AF b.p.W b.p.H u e<u)=false)(f:decide (AZ b.p u e=0)=false)(a:decide (b.ht.getD u.toNat AC.d<b.ht.getD (AF b.p.W b.p.H u e).toNat AC.d)=false):HL b u e s={s with ls:=s.ls++[⟨if Dl b u=s.b then 1 else 0,AF b.p.W b.p.H u e,u⟩]}:=by have a:¬b.ht.getD u.toNat 0<b.ht.getD (AF b.p.W b.p.H u e).toNat 0:=Lu a;rw[c6b h c (Lu f),J8 a,J8 a]
theorem mvQ_le(t Q:Int):0<=KN t Q/\KN t Q<=4:=d28 t Q 4
theorem oth_q(b:Bd)(u e:Int):AD .u8 (EV b u e).q:=by have:=mvQ_le (b.pl.getD u.toNat AE.d).t (Ho (BW b.p.W b.p.H u) (BX b.p.W b.p.H u) (BZ b.p.W b.p.H u) e);unfold EV keep;simp only[AD];split<;>omega
theorem b9r{α:Type}{P:α->Prop}{l:List α}{d:α}(h:∀x∈l,P x)(a:P d)(i:Nat):P (l.getD i d):=by
 rw[J5];cases e:l[i]? with
 |none=>exact a
 |some x=>exact h x (Jb e)
theorem f0t{S:List Sm}{x y:Cl}(h:∀s∈S,s.ps.length<=1000000/\s.ls.length<=1000000/\s.en.length<=1000000)(i:Nat):((DT S x y).getD i BD).ps.length<=1000000/\((DT S x y).getD i BD).ls.length<=1000000/\((DT S x y).getD i BD).en.length<=1000000:=by
 refine b9r (P:=λs:Sm=>s.ps.length<=1000000/\s.ls.length<=1000000/\s.en.length<=1000000) (λs hs=> ?_) (by simp[BD]) i;unfold DT at hs;split at hs
 .exact h s hs
 .rcases Jt.1 hs with hs|hs
  .exact h s hs
  .rw[Jw.1 hs];simp
theorem f18{α:Type}{R:RT α}{l:List α}{x:α}{z:Nat->List SV}(a:z 0=R.sv x):∀i,i<l.length+1->(if i<l.length then R.row l i else z (i-l.length))=R.row (l++[x]) i:=by
 intro i hi;by_cases h:i<l.length
 .rw[J7 h,b0a R h]
 .have:i=l.length:=Dx;subst this;rw[J8 h,Kw,a,b09]
def bdIn(b:Bd)(S:List Sm)(u e:Int):Prop:=
 (b.p.l.length<=100000/\∀c∈b.p.l,AD .u8 c.e)/\(0<=e/\e<=255)/\(0<=u/\u<(b.pl.length:Int)/\u<(b.im.length:Int)/\u<(b.ht.length:Int))/\(AU b.p.W b.p.H u e=0->0<=AF b.p.W b.p.H u e/\AF b.p.W b.p.H u e<(b.ht.length:Int))/\
 (∀m∈b.pl,0<=m.t/\m.t<=255)/\(∀c∈b.im,AD .u8 c.q)/\S.length<=1000000/\∀s∈S,s.ps.length<=1000000/\s.ls.length<=1000000/\s.en.length<=1000000
def c61:HK:=λa own=>match a with
 | [.own 0 0,.int .i64 u,.int .u8 e]=>(asBd own).map λq=>⟨q.1/\bdIn q.2.1 q.2.2 u e,.tup [],Sr q.2.1 (GO q.2.1 u e q.2.2),[3,4]⟩
 |_=>none
def FBMeet:FamH:=⟨(Bd×List Sm)×Int×Int,λ(_,u,e)=>[.own 0 0,.int .i64 u,.int .u8 e],λ((b,S),_,_)=>Sr b S,λ((b,S),u,e)=>bdIn b S u e,λ_=>.tup [],λ((b,S),u,e)=>Sr b (GO b u e S),[3,4]⟩
theorem pBMeet:HS 105 c61:=by
 refine FU {l:=[(118,Va),(129,Vn),(119,VC),(110,Tu),(137,c6a)],h:=[(136,hBAt)],c2:=true,gr:=λid=>bif Nat.beq id 3 then [.focus 12,.keep [0,1,2,6,8,10,12,13,14,15,17,68,81,103,117,136,151]]else [.keep [0,1,2,6,8,10,12,13,14,15,17,68,81,103,117,136,151]],G:={gx:=λ_=>[.unfocus 4]}} ⟨by simpa using⟨b28,b05,b5a,b1g,pPKind⟩,Dz,by simpa using pBAt⟩ FBMeet (λ_ _=>none) c61 ?_ ?_ ?_ Tryz.func105 Dy Dy Dy ?_
 .intro args own r h a;unfold c61 at h;split at h
  .rename_i u e;simp only[Jc]at h;obtain⟨⟨q,n,S⟩,hx,rfl⟩:=h;obtain⟨o,s,h3⟩:=d1i hx a.1;exact⟨((n,S),u,e),⟨E6,E6,E6,Ja⟩,o,s,a.2,rfl,rfl,rfl⟩
  .cases h
 .exact Bz
 .intro i;show 5<=5;decide
 .rintro⟨⟨b,S⟩,u,e⟩ μ a;replace a:bdIn b S u e:=a;have g:=TL b.p.W b.p.H u;have v:=d2p (X:=BW b.p.W b.p.H u) (Y:=BX b.p.W b.p.H u) g.1 a.2.1.1;have w:=oth_q b u e;have z:AD .u8 (Dl b u).q:=b9r (P:=λc:Cl=>AD .u8 c.q) a.2.2.2.2.2.1 (by show (0:Int)<=0/\(0:Int)<=255;omega) u.toNat
  have k:=b9r (P:=λm:Mv=>0<=m.t/\m.t<=255) (d:=AE.d) a.2.2.2.2.1 E1 u.toNat
  have A:=LY (Rr S (Dl b u) (EV b u e));have q8:=f0t (x:=Dl b u) (y:=EV b u e) a.2.2.2.2.2.2.2 (CQ (DT S (Dl b u) (EV b u e)) (IR (Dl b u) (EV b u e)));have B:S.length<=1000000:=a.2.2.2.2.2.2.1;refine X0a _ ?_;(repeat' first|constructor|intro h)<;>refine Lm ?_
  all_goals(try simp only[CI,RT.lst_row,Wp,oth_eq,cl_eta,im_eq]at*)
  all_goals(first
   |exact λ_ _=>Ja
   |exact B3
   |exact f09 _ _ _ _
   |exact d95 _ _ _ _
   |exact d9a _ _ _ _
   |exact(b4b _ _ _ _).symm
   |exact a.2.1.1
   |exact⟨a.2.2.1.1,a.2.2.1.2.1⟩
   |exact⟨a.2.2.1.1,a.2.2.1.2.2.1⟩
   |exact⟨a.2.2.1.1,a.2.2.1.2.2.2⟩
   |exact⟨g.1,a.2.1.1⟩
   |exact⟨k.1,k.2,v.1⟩
   |exact⟨Ja,A⟩
   |exact⟨⟨Do _,a.1.1⟩,a.1.2,a.2.1⟩
   |exact a.2.2.2.1 I1
   |exact⟨Dx,LP Dy Dx⟩
   |(refine⟨⟨⟨⟨Do _,a.1.1⟩,RT.is_row AE _,RT.is_row DE _,RT.is_row AC _⟩,Ja,λ_ _=>Ja,λ_=>Ja,λ_ _=>Ja,λi hi=> ?_⟩,⟨z,w⟩,B⟩
     rw[b4k];exact UA _)
   |(show u.toNat<b.ht.length;have:=a.2.2.1;omega)
   |(show (AF b.p.W b.p.H u e).toNat<b.ht.length;have:=a.2.2.2.1 I1;omega)
   |skip)
  all_goals(intro j hj;by_cases f:j=CQ (DT S (Dl b u) (EV b u e)) (IR (Dl b u) (EV b u e)))
  all_goals(first
   |(rw[J8 f,d4m f];exact UA _)
   |(subst f;rw[J7 rfl,c3q])
   |skip)
  all_goals(first
   |(rw[d33 E2]
     refine And.intro rfl (And.intro rfl (And.intro (λ_ _=>rfl) (And.intro rfl (And.intro (λ_ _=>rfl) (And.intro (by simp[]) (And.intro (f18 (R:=AC) rfl) trivial))))))
     done)
   |(rw[f26 E2 E2];exact And.intro rfl (And.intro rfl (And.intro (λ_ _=>rfl) (And.intro rfl (And.intro (λ_ _=>rfl) (And.intro rfl (And.intro (λ_ _=>rfl) trivial)))))))
   |skip)
  .rw[d33 E2];exact mem_en rfl rfl
  all_goals(try simp only[decide_true,Mr,show decide ((1:Int)=0)=false from rfl,Bool.and_false,Bool.false_eq_true]at*)
  all_goals(try contradiction)
  all_goals(first
   |(exfalso;exact Bool.noConfusion ((show decide (AZ b.p u e=0)=true from E2).symm.trans E2))
   |(rw[f2p E2 E2 (Kj E2)]
     first
      |(rw[J7 (cl_of E2)];exact f2x rfl rfl)
      |(rw[J8 (f4v E2)];exact f2x rfl rfl))
   |(first|rw[d7h E2 E2 E2 E2]|rw[d2w E2 E2 E2 E2]
     first
      |(rw[J7 (cl_of E2)];exact f3t rfl rfl)
      |(rw[J8 (f4v E2)];exact f3t rfl rfl))
   |skip)
section
open Go.Sort
theorem b00{α:Type}[Inhabited α]{enc:α->List Value}{k:Nat}{w:World}{b o m:Nat}{a:Array α}{os:Array Obj}{i:Nat}(hi:i<w.heap.size)(c:i≠b):(sortWorldK enc k w b o m a os).heap[i]?=w.heap[i]?:=by unfold sortWorldK putRowK;rw[heap_grow_old _ _ Eu];show (w.heap.modify b _)[i]?=_;rw[Ms,J8 (Ne.symm c)]
theorem b1t{α:Type}[Inhabited α]{enc:α->List Value}{k:Nat}{w:World}{b o m:Nat}{a:Array α}{os:Array Obj}{c:Array Value}{T:TypeId}{z:Nat×Nat}(h:w.heap[b]?=some (.cells c T z)):(sortWorldK enc k w b o m a os).heap[b]?=some (.cells (putCells id o (flatK enc k a) c) T z):=by have hi:b<w.heap.size:=(Kk.1 h).1;unfold sortWorldK putRowK;rw[heap_grow_old _ _ Eu];show (w.heap.modify b _)[b]?=_;rw[Ms,J7 rfl,h];rfl
theorem b30{α:Type}[Inhabited α]{enc:α->List Value}{k:Nat}{w:World}{b o m:Nat}{a:Array α}{os:Array Obj}:w.heap.size<=(sortWorldK enc k w b o m a os).heap.size:=by unfold sortWorldK putRowK;simp
theorem d45{α:Type}[Inhabited α]{enc:α->List Value}{k:Nat}{w:World}{b o m:Nat}{a:Array α}{os:Array Obj}{X:Nat->Prop}(c:X b):Fr w.heap.size X w (sortWorldK enc k w b o m a os):=
 ⟨rfl,rfl,rfl,λ_=>Nat.le_add_right _ _,b30,λ_ d f=>b00 d (λe=>f (e▸c))⟩
theorem b7d{X:Nat->Prop}{w w':World}(h:Fr w.heap.size X w w')(b:∀i,¬X i):∃q c,w'=grow (w.drewN q) c:=by
 refine⟨w'.drawn-w.drawn,w'.heap.extract w.heap.size w'.heap.size,?_⟩;have h1:=h.drawn trivial;have d:w'.heap=w.heap++w'.heap.extract w.heap.size w'.heap.size:=by
  apply Array.ext_getElem?;intro i;rw[Array.getElem?_append];split
  .rename_i a;exact h.block i a (b i)
  .rename_i a;have:=h.size;rw[Array.getElem?_extract];split
   .congr 1;omega
   .rw[Array.getElem?_eq_none];omega
 have e:=h.os;have f:=h.tape;have g:=h.output;cases w';cases w;simp only[grow,World.drewN,World.mk.injEq]at*;subst e f g;exact⟨d,rfl,Dx,rfl,rfl⟩
theorem b2k{F c:Array Value}{o t:Nat}(h:t<F.size)(a:o+t<c.size):(putCells id o F c)[o+t]?=some F[t]!:=by simp only[putCells,Array.getElem?_mapIdx];rw[Md a];simp only[Kh];rw[J7 ⟨Dx,Dx⟩,show o+t-o=t from Dx];rfl
theorem b0x{F c:Array Value}{o:Nat}:(putCells id o F c).size=c.size:=by simp[putCells]
theorem c33{F c:Array Value}{o:Nat}{v:Value}(b:∀t,t<F.size->F[t]!.oneCell'=true)(d:∀v∈c,v.oneCell'=true)(h:v∈putCells id o F c):v.oneCell'=true:=by
 obtain⟨i,a,rfl⟩:=Array.mem_iff_getElem.1 h;have e:i<c.size:=by rw[b0x]at a;exact a
 simp only[putCells,Array.getElem_mapIdx];split
 .exact b _ Dx
 .exact d _ (Array.getElem_mem e)
theorem f0i{α:Type}[Inhabited α]{enc:α->List Value}{k:Nat}{d:Array α}(b:∀x,(enc x).length=k)(c:∀x,∀v∈enc x,v.oneCell'=true){t:Nat}(a:t<(flatK enc k d).size):(flatK enc k d)[t]!.oneCell'=true:=by
 rw[size_flatK]at a;rw[get_flatK _ _ _ _ a];have k0:0<k:=by
  rcases Ks k with h|h
  .subst h;simp at a
  .exact h
 have:t%k<(enc d[t/k]!).length:=by rw[b];exact Nw _ k0
 rw[Lr (enc d[t/k]!) (t%k) this];exact c _ _ (Kb this)
theorem b94{α:Type}[Inhabited α]{enc:α->List Value}{k:Nat}{d:Array α}{i j:Nat}(hi:i<d.size)(hj:j<k):i*k+j<(flatK enc k d).size/\(flatK enc k d)[i*k+j]! =(enc d[i]!)[j]!:=by
 have lt:i*k+j<d.size*k:=by have:=Km k (show i+1<=d.size from hi);rw[M8,Nat.one_mul]at this;omega
 have a:(i*k+j)/k=i:=(blk_iff k i _ Dx).1 ⟨Dx,Dx⟩;have b:(i*k+j)%k=j:=by rw[Nat.mod_eq_sub_div_mul,a];omega
 exact⟨by simpa using lt,by rw[get_flatK _ _ _ _ lt,a,b]⟩
end
end Go.Proofs.YtaihldljnlgnoaaGreatDoor.V
