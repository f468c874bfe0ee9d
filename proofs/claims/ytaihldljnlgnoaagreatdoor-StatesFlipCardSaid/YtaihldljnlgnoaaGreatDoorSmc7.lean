/-
  Parts of the proof: N1 T3 P7 A15 B0 A16 A1 A2 A3 P1 P2 A4 P4 A5 P3 P8 P9 C1 C2 A6 A7 P10 A8 A9 C3 Q1 Q3. Conditions: none.
-/
import Derived.Test.YtaihldljnlgnoaaGreatDoorSmc5
import Derived.Test.YtaihldljnlgnoaaGreatDoorChecked
import Derived.Shelf.SlSortCmp.NoneTotal
import Derived.Shelf.Lay
import Derived.Ground.SlsfProg
set_option maxRecDepth 100000
set_option maxHeartbeats 40000000
namespace Go.Proofs.YtaihldljnlgnoaaGreatDoor.V
open Go
def QK:AK
 | []=>some (True,.bool true)
 |_=>none
def SV.roT(own:List Blk):SV->Option SV
 |.tup a=>(a.mapM (SV.roA own)).map .tup
 |s=>s.roA own
theorem d2u{w:World}{μ:Mu}{g:Nat}{X A:Nat->Prop}{own:List Blk}(j:Own g X A w μ own){s t:SV}{v:Value}(c:D w (held A μ) μ s v)(a:s.roT own=some t):D w A BK t v:=by
 have b:∀{s t:SV} {v:Value},D w (held A μ) μ s v->s.roA own=some t->D w A BK t v:=λh e=>Wa j (λ_ _ h=>h) (A':=A) (λ_ h=>.inl h) h e (λ_ _ h=>h);unfold SV.roT at a;split at a
 .rename_i k;simp only[Jk]at a;obtain⟨ts,l,rfl⟩:=a;obtain⟨l1,m⟩:=OM l;cases c with
  |tup n o c=>
   refine .tup n (by rw[o,l1]) (λi t v ht q=> ?_);have d:i<k.length:=H4;obtain⟨y,f,e⟩:=m i _ (Je d);rw[ht]at f;cases f;exact b (c i _ v (Je d) q) e
 .exact b c a
theorem XY{f:FuncId}{k d:AK}(h:PS f k)(hs:∀a b s,d a=some (b,s)->b->∃q,k a=some (q,s)/\q):PS f d:=⟨h.1,λA w a c b s g i j e l=>by obtain⟨q,m,n⟩:=hs a b s e l;exact h.2 A w a c q s g i j m n⟩
theorem ps_le{f:FuncId}{k g:AK}(h:PS f k)(hs:∀a b s,g a=some (b,s)->b->∃q d,k a=some (q,d)/\q/\d.le2 s):PS f g:=⟨h.1,λA w a c b s i j l e m=>by obtain⟨q,d,n,o,p⟩:=hs a b s e m;refine(h.2 A w a c q d i j l n o).mono ?_;rintro e w' ⟨v,rfl,r,t⟩;exact⟨v,rfl,RC r p,t⟩⟩
def HK.view(h:HK):AK:=λa=>(h a []).bind λr=>(r.res.roT r.own).map λs=>(r.pre,s)
theorem c8f{f:FuncId}{h:HK}(H:HS f h):PS f h.view:=by
 refine⟨H.1,λA w d j pre s m n o a y=> ?_⟩;simp only[HK.view,Jn,Iq]at a;obtain⟨r,z,t,B,rfl,rfl⟩:=a;have C:∀b,held A BK b->A b:=λb l=>by
  rcases l with l|⟨k,x,a,_⟩
  .exact l
  .cases a
 have p:Keeps w w A (held A BK) BK BK:=⟨Jm _,λ_ _ _=>rfl,λb _ l=>C b l,λ_ _ h=>h⟩
 have E:Own 0 (λ_=>True) A w BK []:=by
  refine⟨?_,?_,?_,m⟩
  .intro k x a;cases a
  .intro k k' x x' b a;cases a
  .intro k x b a;cases a
 refine(H.2 A w d j [] BK r m (λg q u=>⟨(n g q u).1,(n g q u).2.keep p⟩) E (λ_ _=>rfl) ⟨o.1,λi s v hs F=>(o.2 i s v hs F).keep p⟩ z y).mono ?_;rintro e w' ⟨v,μ',rfl,G,_,I,_,c⟩;exact⟨v,rfl,d2u G I B,⟨c.os,c.tape,c.output,c.drawn,c.size,λi J _=>c.block i J (λ⟨k,x,a,_⟩=>by cases a)⟩⟩
structure Cr where
 c:Int
 e:Int
 k:Int
 deriving DecidableEq
def d0:Cr:=⟨0,0,0⟩
def Xb(x:Cr):List SV:=[.int .i64 x.c,.int .u8 x.e,.int .u8 x.k]
def crOf:List SV->Cr
 | [.int _ a,.int _ b,.int _ c]=>⟨a,b,c⟩
 |_=>d0
def DZ(l:List Cr)(i:Nat):List SV:=Xb (l.getD i d0)
def EK(n:Nat)(f:Nat->List SV):List Cr:=(List.range n).map λi=>crOf (f i)
def ME(n:Nat)(f:Nat->List SV):Prop:=∀i,i<n->f i=Xb (crOf (f i))
def NT:SV->Option (Nat×(Nat->List SV))
 |.sl 3 n f _=>some (n,f)
 |.con (.slice none 0 0)=>some (0,λ_=>[])
 |_=>none
theorem EC(l:List Cr):ME l.length (DZ l):=λ_ _=>rfl
theorem RW(n:Nat)(f:Nat->List SV):(EK n f).length=n:=by simp[EK]
theorem d30{n:Nat}{f:Nat->List SV}(h:ME n f):∀i,i<n->f i=DZ (EK n f) i:=by intro i a;rw[h i a];simp[DZ,EK,a]
theorem CR(l:List Cr):EK l.length (DZ l)=l:=by
 apply Ma;intro i;by_cases a:i<l.length
 .simp[EK,DZ,a,Xb,crOf]
 .simp at a;simp[EK,a]
theorem HT{s:SV}{sz n:Nat}{f:Nat->List SV}{c:Option Nat}(h:s.le0 (.sl sz n f c)):s.le2 (.sl sz n f c):=by cases s<;>exact h
theorem QQ{s:SV}{n:Nat}{f:Nat->List SV}(h:NT s=some (n,f))(a:ME n f):SV.le0 s (.sl 3 (EK n f).length (DZ (EK n f)) none):=by
 unfold NT at h;split at h
 .cases h;simp only[SV.le0,HV,RW,Kt,Nx];exact RX (d30 a)
 .cases h;simp[SV.le0,EK,HV]
 .cases h
theorem d39{sz n:Nat}{f:Nat->List SV}(c:Option Nat):SV.le0 (.sl sz n f c) (.sl sz n f none):=by simp only[SV.le0,HV,Kt,Nx];exact λi hi=>.inl rfl
theorem c8j(sz:Nat){f:Nat->List SV}:SV.le0 (.con (.slice none 0 0)) (.sl sz 0 f none):=by simp[SV.le0,HV]
theorem MK{b n:Nat}(h:Nat.ble b 128=true)(a:n*128<=140737488355328):n*b<=140737488355328:=
 Lk (Nat.mul_le_mul_left _ (Nat.le_of_ble_eq_true h)) a
def WH:AK
 | [.sl 1 n f _]=>some (n<=100000,.sl 1 n f (some n))
 | [.con (.slice none 0 0)]=>some (True,.sl 1 0 (λ_=>[]) (some 0))
 |_=>none
def f07:Fam:=⟨Nat×(Nat->List SV),λ(n,f)=>[.sl 1 n f none],λ(n,_)=>n<=100000,λ(n,f)=>.sl 1 n f (some n)⟩
theorem c0g:PS 130 WH:=by
 refine con [] E6 f07 (λ_ _=>none) WH ?_ ?_ Tryz.func130 E5 E5 E5 ?_
 .intro args pre s h hp;unfold WH at h;split at h
  .rename_i n f c;cases h;exact C7
  .cases h;exact Cb
  .cases h
 .exact C4
 .rintro⟨n,f⟩ hp;replace hp:n<=100000:=hp;refine X0a _ ?_;(repeat' first|constructor|intro h)<;>refine Lm ?_
  all_goals(first
   |exact Av
   |(show some ((n:Int)-0).toNat=some n;congr 1)
   |(intro i hi;congr 1;simp;done)
   |skip)
def Yl:AK
 | [.sl 1 n f _]=>some (n<=100000,.sl 1 n f none)
 | [.con (.slice none 0 0)]=>some (True,.sl 1 0 (λ_=>[]) none)
 |_=>none
def d1d:Fam:=⟨Nat×(Nat->List SV),λ(n,f)=>[.sl 1 n f none],λ(n,_)=>n<=100000,λ(n,f)=>.sl 1 n f none⟩
theorem c1c:PS 131 Yl:=by
 refine con [] E6 d1d (λ_ _=>none) Yl ?_ ?_ Tryz.func131 E5 E5 E5 ?_
 .intro args pre s h hp;unfold Yl at h;split at h
  .rename_i n f c;cases h;exact C7
  .cases h;exact Cb
  .cases h
 .exact C4
 .rintro⟨n,f⟩ hp;replace hp:n<=100000:=hp;refine X0a _ ?_;(repeat' first|constructor|intro h)<;>refine Lm ?_
  all_goals(first
   |omega
   |exact Bn
   |(intro i hi;simp;done)
   |skip)
def b1h:AK
 | [.sl 4 n f _]=>some (n<=100000,.sl 4 n f (some n))
 | [.con (.slice none 0 0)]=>some (True,.sl 4 0 (λ_=>[]) (some 0))
 |_=>none
def c98:Fam:=⟨Nat×(Nat->List SV),λ(n,f)=>[.sl 4 n f none],λ(n,_)=>n<=100000,λ(n,f)=>.sl 4 n f (some n)⟩
theorem d00:PS 101 b1h:=by
 refine con [] E6 c98 (λ_ _=>none) b1h ?_ ?_ Tryz.func101 E5 E5 E5 ?_
 .intro args pre s h hp;unfold b1h at h;split at h
  .rename_i n f c;cases h;exact C7
  .cases h;exact Cb
  .cases h
 .exact C4
 .rintro⟨n,f⟩ hp;replace hp:n<=100000:=hp;refine X0a _ ?_;(repeat' first|constructor|intro h)<;>refine Lm ?_
  all_goals(first
   |exact Av
   |(show some ((n:Int)-0).toNat=some n;congr 1)
   |(intro i hi;congr 1;simp;done)
   |skip)
def b0q:AK
 | [.sl 4 n f _]=>some (n<=100000,.sl 4 n f none)
 | [.con (.slice none 0 0)]=>some (True,.sl 4 0 (λ_=>[]) none)
 |_=>none
def c3e:Fam:=⟨Nat×(Nat->List SV),λ(n,f)=>[.sl 4 n f none],λ(n,_)=>n<=100000,λ(n,f)=>.sl 4 n f none⟩
theorem c58:PS 102 b0q:=by
 refine con [] E6 c3e (λ_ _=>none) b0q ?_ ?_ Tryz.func102 E5 E5 E5 ?_
 .intro args pre s h hp;unfold b0q at h;split at h
  .rename_i n f c;cases h;exact C7
  .cases h;exact Cb
  .cases h
 .exact C4
 .rintro⟨n,f⟩ hp;replace hp:n<=100000:=hp;refine X0a _ ?_;(repeat' first|constructor|intro h)<;>refine Lm ?_
  all_goals(first
   |omega
   |exact Bn
   |(intro i hi;simp;done)
   |skip)
def b0v:AK
 | [.sl 3 n f _]=>some (n<=100000,.sl 3 n f (some n))
 | [.con (.slice none 0 0)]=>some (True,.sl 3 0 (λ_=>[]) (some 0))
 |_=>none
def c3n:Fam:=⟨Nat×(Nat->List SV),λ(n,f)=>[.sl 3 n f none],λ(n,_)=>n<=100000,λ(n,f)=>.sl 3 n f (some n)⟩
theorem c39:PS 77 b0v:=by
 refine con [] E6 c3n (λ_ _=>none) b0v ?_ ?_ Tryz.func77 E5 E5 E5 ?_
 .intro args pre s h hp;unfold b0v at h;split at h
  .rename_i n f c;cases h;exact C7
  .cases h;exact Cb
  .cases h
 .exact C4
 .rintro⟨n,f⟩ hp;replace hp:n<=100000:=hp;refine X0a _ ?_;(repeat' first|constructor|intro h)<;>refine Lm ?_
  all_goals(first
   |exact Av
   |(show some ((n:Int)-0).toNat=some n;congr 1)
   |(intro i hi;congr 1;simp;done)
   |skip)
def b0b:AK
 | [.sl 3 n f _]=>some (n<=100000,.sl 3 n f none)
 | [.con (.slice none 0 0)]=>some (True,.sl 3 0 (λ_=>[]) none)
 |_=>none
def c2z:Fam:=⟨Nat×(Nat->List SV),λ(n,f)=>[.sl 3 n f none],λ(n,_)=>n<=100000,λ(n,f)=>.sl 3 n f none⟩
theorem c34:PS 78 b0b:=by
 refine con [] E6 c2z (λ_ _=>none) b0b ?_ ?_ Tryz.func78 E5 E5 E5 ?_
 .intro args pre s h hp;unfold b0b at h;split at h
  .rename_i n f c;cases h;exact C7
  .cases h;exact Cb
  .cases h
 .exact C4
 .rintro⟨n,f⟩ hp;replace hp:n<=100000:=hp;refine X0a _ ?_;(repeat' first|constructor|intro h)<;>refine Lm ?_
  all_goals(first
   |omega
   |exact Bn
   |(intro i hi;simp;done)
   |skip)
def b2f:AK
 | [.sl 2 n f _]=>some (n<=100000,.sl 2 n f (some n))
 | [.con (.slice none 0 0)]=>some (True,.sl 2 0 (λ_=>[]) (some 0))
 |_=>none
def d0n:Fam:=⟨Nat×(Nat->List SV),λ(n,f)=>[.sl 2 n f none],λ(n,_)=>n<=100000,λ(n,f)=>.sl 2 n f (some n)⟩
theorem d4x:PS 145 b2f:=by
 refine con [] E6 d0n (λ_ _=>none) b2f ?_ ?_ Tryz.func145 E5 E5 E5 ?_
 .intro args pre s h hp;unfold b2f at h;split at h
  .rename_i n f c;cases h;exact C7
  .cases h;exact Cb
  .cases h
 .exact C4
 .rintro⟨n,f⟩ hp;replace hp:n<=100000:=hp;refine X0a _ ?_;(repeat' first|constructor|intro h)<;>refine Lm ?_
  all_goals(first
   |exact Av
   |(show some ((n:Int)-0).toNat=some n;congr 1)
   |(intro i hi;congr 1;simp;done)
   |skip)
def b2d:AK
 | [.sl 3 n f _]=>some (n<=100000,.sl 3 n f (some n))
 | [.con (.slice none 0 0)]=>some (True,.sl 3 0 (λ_=>[]) (some 0))
 |_=>none
def d6t:Fam:=⟨Nat×(Nat->List SV),λ(n,f)=>[.sl 3 n f none],λ(n,_)=>n<=100000,λ(n,f)=>.sl 3 n f (some n)⟩
theorem d2w:PS 147 b2d:=by
 refine con [] E6 d6t (λ_ _=>none) b2d ?_ ?_ Tryz.func147 E5 E5 E5 ?_
 .intro args pre s h hp;unfold b2d at h;split at h
  .rename_i n f c;cases h;exact C7
  .cases h;exact Cb
  .cases h
 .exact C4
 .rintro⟨n,f⟩ hp;replace hp:n<=100000:=hp;refine X0a _ ?_;(repeat' first|constructor|intro h)<;>refine Lm ?_
  all_goals(first
   |exact Av
   |(show some ((n:Int)-0).toNat=some n;congr 1)
   |(intro i hi;congr 1;simp;done)
   |skip)
structure RT (α:Type)where
 sz:Nat
 sv:α->List SV
 of:List SV->α
 d:α
 ok:∀x,of (sv x)=x
def RT.row{α:Type}(R:RT α)(l:List α)(i:Nat):List SV:=R.sv (l.getD i R.d)
def RT.lst{α:Type}(R:RT α)(n:Nat)(f:Nat->List SV):List α:=(List.range n).map λi=>R.of (f i)
def RT.is{α:Type}(R:RT α)(n:Nat)(f:Nat->List SV):Prop:=∀i,i<n->f i=R.sv (R.of (f i))
theorem RT.is_row{α:Type}(R:RT α)(l:List α):R.is l.length (R.row l):=λi _=>by simp only[RT.row,R.ok]
theorem RT.lst_length{α:Type}(R:RT α)(n:Nat)(f:Nat->List SV):(R.lst n f).length=n:=by simp[RT.lst]
theorem RT.row_lst{α:Type}(R:RT α){n:Nat}{f:Nat->List SV}(h:R.is n f):∀i,i<n->f i=R.row (R.lst n f) i:=by intro i a;rw[h i a];simp[RT.row,RT.lst,a]
theorem RT.lst_row{α:Type}(R:RT α)(l:List α):R.lst l.length (R.row l)=l:=by
 apply Ma;intro i;by_cases a:i<l.length
 .simp[RT.lst,RT.row,a,R.ok]
 .simp at a;simp[RT.lst,a]
def RT.as{α:Type}(R:RT α):SV->Option (Nat×(Nat->List SV))
 |.sl a n f _=>if a=R.sz then some (n,f)else none
 |.con (.slice none 0 0)=>some (0,λ_=>[])
 |_=>none
theorem RT.as_le{α:Type}(R:RT α){s:SV}{n:Nat}{f:Nat->List SV}(h:R.as s=some (n,f))(a:R.is n f):SV.le0 s (.sl R.sz (R.lst n f).length (R.row (R.lst n f)) none):=by
 unfold RT.as at h;split at h
 .split at h
  .rename_i b;cases h;simp only[SV.le0,HV,RT.lst_length,b,Nx];exact⟨Ji,RX (R.row_lst a)⟩
  .cases h
 .cases h;simp[SV.le0,RT.lst,HV]
 .cases h
structure Mv where
 t:Int
 x:Int
 y:Int
 deriving DecidableEq
def AE:RT Mv:=⟨3,λm=>[.int .u8 m.t,.int .i64 m.x,.int .i64 m.y],λl=>match l with
 | [.int _ a,.int _ b,.int _ c]=>⟨a,b,c⟩
 |_=>⟨0,0,0⟩,⟨0,0,0⟩,λ_=>rfl⟩
def AC:RT Int:=⟨1,λn=>[.int .i64 n],λl=>match l with
 | [.int _ a]=>a
 |_=>0,0,λ_=>rfl⟩
def GR:RT Bool:=⟨1,λb=>[.bool b],λl=>match l with
 | [.bool b]=>b
 |_=>false,false,λ_=>rfl⟩
theorem b14{α:Type}(R:RT α){l:List α}{n j:Nat}{m:α}(h:n<l.length)(e:j=n):R.row (l.set n m) j=R.sv m:=by subst e;simp[RT.row,h]
theorem b3g{α:Type}(R:RT α){l:List α}{n j:Nat}{m:α}(e:¬j=n):R.row (l.set n m) j=R.row l j:=by simp only[RT.row,Jd,Ju (Ne.symm e)]
theorem b0a{α:Type}(R:RT α){l r:List α}{j:Nat}(h:j<l.length):R.row (l++r) j=R.row l j:=by simp only[RT.row,Jd,Jr h]
theorem b09{α:Type}(R:RT α){l:List α}{x:α}:R.row (l++[x]) l.length=R.sv x:=by simp[RT.row]
theorem d8h{α:Type}(R:RT α)(x:α)(r:List α)(j:Nat):R.row (x::r) (1+j)=R.row r j:=by rw[Nat.add_comm];rfl
theorem SA{b:Nat}{n:Int}(h:Nat.ble b 128=true)(a:0<=n)(c:128*n<=281474976710656):(b:Int)*n<=281474976710656:=by have:b<=128:=Nat.le_of_ble_eq_true h;exact Int.le_trans (Int.mul_le_mul_of_nonneg_right E4 a) c
def upto{α:Type}(A B:Nat->α)(i j:Nat):α:=if j<i then A j else B j
theorem b65{α:Type}(R:RT α)(c:∀a b,DW true (R.sv a) (R.sv b)=R.sv a)(d:∀a b,DW false (R.sv a) (R.sv b)=R.sv b)(A B:Nat->α)(i j:Nat):
 DW (decide (j=i)) (R.sv (A i)) (R.sv (upto A B i j))=R.sv (upto A B (i+1) j):=by
 by_cases e:j=i
 .subst e;rw[K2 rfl,c];simp[upto]
 .rw[K5 e,d];by_cases h:j<i
  .simp[upto,h,show j<i+1 from E4]
  .simp[upto,h,show¬j<i+1 from E4]
theorem b6e{α:Type}(A B:Nat->α)(j:Nat):upto A B 0 j=B j:=by simp[upto]
theorem b8i{α:Type}(A B:Nat->α){i j:Nat}(h:j<i):upto A B i j=A j:=by simp[upto,h]
theorem c0v{α:Type}(A B:Nat->α){i j:Nat}(h:i<=j):upto A B i j=B j:=by simp[upto,show¬j<i from E4]
def MC(f:Nat->Int):Nat->Nat->Int
 |0,_=>0
 |n+1,i=>if f i=0 then MC f n (i+1)else f i
theorem b61{f:Nat->Int}:∀{n i:Nat},MC f n i=0->∀j,i<=j->j<i+n->f j=0
 |0,i,_,j,b,c=>E4
 |n+1,i,h,j,b,c=>by
  simp only[MC]at h;split at h
  .rename_i a;by_cases e:j=i
   .rw[e];exact a
   .exact b61 h j E4 E4
  .rename_i a;exact absurd h a
structure Cl where
 x:Int
 y:Int
 q:Int
 deriving DecidableEq
def Co:RT Cl:=⟨3,λc=>[.int .i64 c.x,.int .i64 c.y,.int .u8 c.q],λl=>match l with
 | [.int _ a,.int _ b,.int _ c]=>⟨a,b,c⟩
 |_=>⟨0,0,0⟩,⟨0,0,0⟩,λ_=>rfl⟩
structure Stk where
 c:Cl
 l:List Int
 deriving DecidableEq
def Tj:List SV->Stk
 | [.int _ a,.int _ b,.int _ c,s]=>⟨⟨a,b,c⟩,match AC.as s with|some (n,f)=>AC.lst n f|none=>[]⟩
 |_=>⟨⟨0,0,0⟩,[]⟩
def AA:RT Stk:=⟨4,λs=>[.int .i64 s.c.x,.int .i64 s.c.y,.int .u8 s.c.q,.sl 1 s.l.length (AC.row s.l) none],Tj,⟨⟨0,0,0⟩,[]⟩,λs=>by have:AC.lst s.l.length (AC.row s.l)=s.l:=RT.lst_row _ _;show Tj [.int .i64 s.c.x,.int .i64 s.c.y,.int .u8 s.c.q,.sl 1 s.l.length (AC.row s.l) none]=s;have h:AC.as (.sl 1 s.l.length (AC.row s.l) none)=some (s.l.length,AC.row s.l):=rfl;simp only[Tj,h,this]⟩
def RT.isL{α:Type}(R:RT α)(n:Nat)(f:Nat->List SV):Prop:=∀i,i<n->GU (f i) (R.sv (R.of (f i)))
theorem RT.isL_row{α:Type}(R:RT α)(l:List α):R.isL l.length (R.row l):=λi _=>.inl (by simp only[RT.row,R.ok])
theorem RT.as_leL{α:Type}(R:RT α){s:SV}{n:Nat}{f:Nat->List SV}(h:R.as s=some (n,f))(a:R.isL n f):SV.le0 s (.sl R.sz (R.lst n f).length (R.row (R.lst n f)) none):=by
 unfold RT.as at h;split at h
 .split at h
  .rename_i b;cases h;simp only[SV.le0,HV,RT.lst_length,b,Nx];refine⟨Ji,λi hi=> ?_⟩;have:=a i hi;have e:R.row (R.lst n f) i=R.sv (R.of (f i)):=I8;rw[e];exact this
  .cases h
 .cases h;simp[SV.le0,RT.lst,HV]
 .cases h
def BV(l:List Int)(v:Int):Int:=match l.findIdx? (λx=>decide (x=v))with
 |some i=>i
 |none=> -1
theorem c75{l:List Int}{v:Int}{i:Nat}(hi:i<l.length)(h:∀j,j<i->l.getD j 0≠v)(a:l.getD i 0=v):BV l v=i:=by
 have:l.findIdx? (λx=>decide (x=v))=some i:=by
  rw[L6];refine⟨hi,?_,λj b=> ?_⟩
  .simpa[Jd,hi]using a
  .have:=h j b;have c:j<l.length:=E4;simpa[Jd,c]using this
 simp[BV,this]
theorem d59{l:List Int}{v:Int}(h:∀j,j<l.length->l.getD j 0≠v):BV l v= -1:=by
 have:l.findIdx? (λx=>decide (x=v))=none:=by rw[Ln];intro x hx;obtain⟨j,a,rfl⟩:=K7.1 hx;have:=h j a;simpa[Jd,a]using this
 simp[BV,this]
def b9c:AK
 | [x,.int .i64 v]=>match AC.as x with
   |some (n,f)=>some (AC.isL n f/\n<=100000,.int .i64 (BV (AC.lst n f) v))
   |none=>none
 |_=>none
def d16:Fam:=⟨List Int×Int,λ(l,v)=>[.sl 1 l.length (AC.row l) none,.int .i64 v],λ(l,_)=>l.length<=100000,λ(l,v)=>.int .i64 (BV l v)⟩
def g0p:List Int×Int->Nat->Option Inv
 |(l,v),2=>some {β:=Nat,ok:=λi=>i<=l.length/\∀j,j<i->l.getD j 0≠v,st:=λi=>⟨[⟨8,none,.int .i64 i⟩,⟨7,none,.int .i64 l.length⟩,⟨1,none,.int .i64 v⟩,⟨0,none,.sl 1 l.length (AC.row l) none⟩],[]⟩,μ:=λi=>l.length-i}
 |_,_=>none
theorem g19:PS 151 b9c:=by
 refine con [] E6 d16 g0p b9c ?_ ?_ Tryz.func151 E5 E5 E5 ?_
 .intro args pre s h a;unfold b9c at h;split at h
  .split at h
   .rename_i n f hx;cases h;exact⟨(AC.lst n f,_),⟨HT (AC.as_leL hx a.1),Ec,Ji⟩,by simp only[d16,RT.lst_length];exact a.2,rfl⟩
   .cases h
  .cases h
 .exact C3
 .rintro⟨l,v⟩ a;replace a:l.length<=100000:=a;refine X0a _ ?_;(repeat' first|constructor|intro h)<;>refine Lm ?_
  refine⟨(0:Nat),⟨Js _,λj g=>E4⟩,?_,?_⟩
  .exact X0d
  .intro i k;obtain⟨dw,c⟩:=k;refine X0a _ ?_;(repeat' first|constructor|intro h)<;>refine Lm ?_
   all_goals(try simp only[In]at*)
   all_goals(first
    |exact As
    |(refine(c75 E4 c ?_).symm;exact(by assumption:v=l.getD i AC.d).symm)
    |(refine⟨i+1,⟨E4,λj g=> ?_⟩,Ef,?_⟩)
    |(refine(d59 λj g=> ?_).symm;exact c j E4)
    |skip)
   .by_cases e:j<i
    .exact c j e
    .have:j=i:=E4;subst this;have q:¬v=l.getD j AC.d:=E8;exact λe=>q e.symm
   .exact X0e
def c0f:AK
 | [.agg [.int .i64 a,.int .i64 b,.int .u8 c,x]]=>match AC.as x with
   |some (n,f)=>some (AC.isL n f/\n<=100000,.agg [.int .i64 a,.int .i64 b,.int .u8 c,.sl 1 (AC.lst n f).length (AC.row (AC.lst n f)) (some (AC.lst n f).length)])
   |none=>none
 |_=>none
def d4n:Fam:=⟨Stk,λs=>[.agg [.int .i64 s.c.x,.int .i64 s.c.y,.int .u8 s.c.q,.sl 1 s.l.length (AC.row s.l) none]],λs=>s.l.length<=100000,λs=>.agg [.int .i64 s.c.x,.int .i64 s.c.y,.int .u8 s.c.q,.sl 1 s.l.length (AC.row s.l) (some s.l.length)]⟩
theorem f7a:PS 87 c0f:=by
 refine con [(131,Yl),(130,WH)] (by simpa using⟨c1c,c0g⟩) d4n (λ_ _=>none) c0f ?_ ?_ Tryz.func87 E5 E5 E5 ?_
 .intro args pre s h d;unfold c0f at h;split at h
  .split at h
   .rename_i a b c y q n f hx;cases h;exact⟨⟨⟨a,b,c⟩,AC.lst n f⟩,⟨⟨E9,E9,E9,AC.as_leL hx d.1,Ji⟩,Ji⟩,by simp only[d4n,RT.lst_length];exact d.2,rfl⟩
   .cases h
  .cases h
 .exact C4
 .rintro s d;replace d:s.l.length<=100000:=d;exact X0e
def IQ(x:SV):Option (Prop×List Stk):=(AA.as x).map λq=>(AA.isL q.1 q.2/\q.1<=100000/\∀s∈AA.lst q.1 q.2,s.l.length<=100000,AA.lst q.1 q.2)
def ET(L:List Stk):Prop:=L.length<=100000/\∀s∈L,s.l.length<=100000
def FI(L:List Stk):SV:=.sl 4 L.length (AA.row L) none
theorem LD{x:SV}{q:Prop}{L:List Stk}(h:IQ x=some (q,L))(hq:q):x.le2 (FI L)/\ET L:=by unfold IQ at h;simp only[Iq]at h;obtain⟨⟨n,f⟩,hx,rfl,rfl⟩:=h;exact⟨HT (AA.as_leL hx hq.1),He,hq.2.2⟩
theorem LH(L:List Stk)(h:ET L):AA.isL L.length (AA.row L)/\L.length<=100000/\∀s∈L,s.l.length<=100000:=⟨AA.isL_row L,h⟩
theorem LF(L:List Stk):AA.lst L.length (AA.row L)=L:=RT.lst_row AA L
theorem Pp{L:List Stk}(h:ET L)(i:Nat):(L.getD i AA.d).l.length<=100000:=by
 rw[Jd];cases hg:L[i]? with
 |none=>show 0<=_;omega
 |some s=>exact h.2 s (Jj hg)
def AX(L:List Stk)(c:Cl):List Int:=match L.find? (λs=>decide (s.c=c))with
 |some s=>s.l
 |none=>[]
theorem b41{L:List Stk}{c:Cl}{i:Nat}(hi:i<L.length)(h:∀j,j<i->(L.getD j AA.d).c≠c)(hc:(L.getD i AA.d).c=c):AX L c=(L.getD i AA.d).l:=by
 have:L.find? (λs=>decide (s.c=c))=some (L.getD i AA.d):=by rw[List.find?_eq_some_iff_getElem];refine⟨Ey,i,hi,by simp[hi],λj a=> ?_⟩;have:=h j a;have b:j<L.length:=E4;simpa[Jd,b]using this
 simp[AX,this]
theorem c1s{L:List Stk}{c:Cl}(h:∀j,j<L.length->(L.getD j AA.d).c≠c):AX L c=[]:=by
 have:L.find? (λs=>decide (s.c=c))=none:=by rw[List.find?_eq_none];intro s hs;obtain⟨j,a,rfl⟩:=K7.1 hs;have:=h j a;simpa[Jd,a]using this
 simp[AX,this]
theorem clEq(a b:Cl):(decide (a.x=b.x)&&(decide (a.y=b.y)&&(decide (a.q=b.q)&&true)))=decide (a=b):=by cases a;cases b;simp[Bool.decide_and]
def f06:AK
 | [x,.agg [.int .i64 a,.int .i64 b,.int .u8 c]]=>(IQ x).map λq=>(q.1,.sl 1 (AX q.2 ⟨a,b,c⟩).length (AC.row (AX q.2 ⟨a,b,c⟩)) none)
 |_=>none
def FStAt:Fam:=⟨List Stk×Cl,λ(L,c)=>[FI L,.agg [.int .i64 c.x,.int .i64 c.y,.int .u8 c.q]],λ(L,_)=>ET L,λ(L,c)=>.sl 1 (AX L c).length (AC.row (AX L c)) none⟩
def IStAt:List Stk×Cl->Nat->Option Inv
 |(L,c),2=>some {β:=Nat,ok:=λi=>i<=L.length/\∀j,j<i->(L.getD j AA.d).c≠c,st:=λi=>⟨[⟨9,none,.int .i64 i⟩,⟨8,none,.int .i64 L.length⟩,⟨7,none,FI L⟩,⟨3,none,.own 0 0⟩],[.cells 39 [.int .i64 c.x,.int .i64 c.y,.int .u8 c.q]]⟩,μ:=λi=>L.length-i}
 |_,_=>none
theorem pStAt:PS 111 f06:=by
 refine con [(131,Yl),(130,WH)] (by simpa using⟨c1c,c0g⟩) FStAt IStAt f06 ?_ ?_ Tryz.func111 E5 E5 E5 ?_
 .intro args pre s h d;unfold f06 at h;split at h
  .rename_i x a b c;simp only[Iq]at h;obtain⟨⟨q,L⟩,hx,rfl,rfl⟩:=h;obtain⟨l,m⟩:=LD hx d;exact⟨(L,⟨a,b,c⟩),⟨l,Ej,Ji⟩,m,rfl⟩
  .cases h
 .exact C3
 .rintro⟨L,c⟩ d;replace d:ET L:=d;refine X0a _ ?_;(repeat' first|constructor|intro h)<;>refine Lm ?_
  refine⟨(0:Nat),⟨Js _,λj k=>E4⟩,?_,?_⟩
  .exact X0d
  .intro i n;obtain⟨dw,f⟩:=n;have hg:=Pp d i;have hl:=d.1;refine X0a _ ?_;(repeat' first|constructor|intro h)<;>refine Lm ?_
   all_goals(try simp only[In,clEq]at*)
   all_goals(first
    |exact As
    |(rw[b41 E4 f E8];done)
    |(intro j k;rw[b41 E4 f E8];done)
    |(refine⟨i+1,⟨E4,λj k=> ?_⟩,Ef,?_⟩)
    |(rw[c1s λj k=>f j E4];rfl)
    |skip)
   .by_cases e:j<i
    .exact f j e
    .have:j=i:=E4;subst this;assumption
   .exact X0e
def DV(k C:Int):Int:=if 1<=k/\k<=4/\ -4096<=C/\C<=4096 then 0 else 1
def Wx:AK
 | [.agg [.int .u8 k,.int .i64 C]]=>some (True,.int .i64 (DV k C))
 |_=>none
def c5h:Fam:=⟨Int×Int,λ(k,C)=>[.agg [.int .u8 k,.int .i64 C]],λ(_,_)=>True,λ(k,C)=>.int .i64 (DV k C)⟩
theorem c6t:PS 86 Wx:=by
 refine con [] E6 c5h (λ_ _=>none) Wx ?_ ?_ Tryz.func86 E5 E5 E5 ?_
 .intro args pre s h a;unfold Wx at h;split at h
  .rename_i k C;cases h;exact⟨(k,C),by simp[c5h,BN,SV.le2,SV.le1,BJ,SV.le0],a,rfl⟩
  .cases h
 .exact C4
 .rintro⟨k,C⟩ a;replace a:True:=a;refine X0a _ ?_;(repeat' first|constructor|intro h)<;>refine Lm ?_
  all_goals(simp[DV]at h⊢;omega)
def LK(x y:Int):Int:=if -65536<=x/\x<=65536/\ -65536<=y/\y<=65536 then 0 else 1
def b48:AK
 | [.agg [.int .i64 x,.int .i64 y]]=>some (True,.int .i64 (LK x y))
 |_=>none
def c6a:Fam:=⟨Int×Int,λ(x,y)=>[.agg [.int .i64 x,.int .i64 y]],λ(_,_)=>True,λ(x,y)=>.int .i64 (LK x y)⟩
theorem f26:PS 233 b48:=by
 refine con [] E6 c6a (λ_ _=>none) b48 ?_ ?_ Tryz.func233 E5 E5 E5 ?_
 .intro args pre s h a;unfold b48 at h;split at h
  .rename_i x y;cases h;exact⟨(x,y),by simp[c6a,BN,SV.le2,SV.le1,BJ,SV.le0],a,rfl⟩
  .cases h
 .exact C4
 .rintro⟨x,y⟩ a;replace a:True:=a;refine X0a _ ?_;(repeat' first|constructor|intro h)<;>refine Lm ?_
  all_goals(simp[LK]at h⊢;omega)
theorem b3b{k C:Int}(h:DV k C=0):1<=k/\k<=4/\ -4096<=C/\C<=4096:=by
 unfold DV at h;split at h
 .assumption
 .cases h
theorem d02{x y:Int}(h:LK x y=0): -65536<=x/\x<=65536/\ -65536<=y/\y<=65536:=by
 unfold LK at h;split at h
 .assumption
 .cases h
def tA(t:Int):Int:=tb [1,0,-1,0,-1,0,1,0] t.toNat
def tB(t:Int):Int:=tb [0,-1,0,1,0,-1,0,1] t.toNat
def tC(t:Int):Int:=tb [0,1,0,-1,0,-1,0,1] t.toNat
def tD(t:Int):Int:=tb [1,0,-1,0,1,0,-1,0] t.toNat
def FJ(a:Int):Prop:= -1<=a/\a<=1
theorem Vn{t:Int}(a:0<=t)(h1:t<8):FJ (tA t)/\FJ (tB t)/\FJ (tC t)/\FJ (tD t):=by
 have:∀q:Nat,q<8->FJ (tA q)/\FJ (tB q)/\FJ (tC q)/\FJ (tD q):=by unfold FJ;decide
 have:=this t.toNat E4;rwa[Mc a]at this
theorem Ox{a x:Int}(h:FJ a):a*x=0\/a*x=x\/a*x= -x:=by have h1:=h.1;have h2:=h.2;have:a= -1\/a=0\/a=1:=E4;rcases this with rfl|rfl|rfl<;>simp
def TE:AK
 | [.agg [.int .i64 a,.int .i64 b,.int .i64 c,.int .i64 d],.int .i64 x,.int .i64 y]=>some (FJ a/\FJ b/\FJ c/\FJ d/\ -1000000<=x/\x<=1000000/\ -1000000<=y/\y<=1000000,.tup [.int .i64 (a*x+b*y),.int .i64 (c*x+d*y)])
 |_=>none
def f57:Fam:=⟨Int×Int×Int×Int×Int×Int,λ(a,b,c,d,x,y)=>[.agg [.int .i64 a,.int .i64 b,.int .i64 c,.int .i64 d],.int .i64 x,.int .i64 y],λ(a,b,c,d,x,y)=>FJ a/\FJ b/\FJ c/\FJ d/\ -1000000<=x/\x<=1000000/\ -1000000<=y/\y<=1000000,λ(a,b,c,d,x,y)=>.tup [.int .i64 (a*x+b*y),.int .i64 (c*x+d*y)]⟩
theorem c7a:PS 52 TE:=by
 refine con [] E6 f57 (λ_ _=>none) TE ?_ ?_ Tryz.func52 E5 E5 E5 ?_
 .intro args pre s h e;unfold TE at h;split at h
  .rename_i a b c d x y;cases h;exact⟨(a,b,c,d,x,y),by simp[f57,BN,SV.le2,SV.le1,BJ,SV.le0],e,rfl⟩
  .cases h
 .exact C5
 .rintro⟨a,b,c,d,x,y⟩ ⟨f,g,j,k,hx⟩;have e1:=Ox (x:=x) f;have e2:=Ox (x:=y) g;have e3:=Ox (x:=x) j;have e4:=Ox (x:=y) k;exact X0f
def b46:AK
 | [.agg [.int .i64 a,.int .i64 b,.int .i64 c,.int .i64 d],.agg [.int .i64 p,.int .i64 q,.int .i64 r,.int .i64 s]]=>some ((FJ a/\FJ b/\FJ c/\FJ d)/\FJ p/\FJ q/\FJ r/\FJ s,.agg [.int .i64 (p*a+q*c),.int .i64 (p*b+q*d),.int .i64 (r*a+s*c),.int .i64 (r*b+s*d)])
 |_=>none
def c64:Fam:=⟨Int×Int×Int×Int×Int×Int×Int×Int,λ(a,b,c,d,p,q,r,s)=>[.agg [.int .i64 a,.int .i64 b,.int .i64 c,.int .i64 d],.agg [.int .i64 p,.int .i64 q,.int .i64 r,.int .i64 s]],λ(a,b,c,d,p,q,r,s)=>(FJ a/\FJ b/\FJ c/\FJ d)/\FJ p/\FJ q/\FJ r/\FJ s,λ(a,b,c,d,p,q,r,s)=>.agg [.int .i64 (p*a+q*c),.int .i64 (p*b+q*d),.int .i64 (r*a+s*c),.int .i64 (r*b+s*d)]⟩
theorem d7j:PS 120 b46:=by
 refine con [(52,TE)] (by simpa using c7a) c64 (λ_ _=>none) b46 ?_ ?_ Tryz.func120 E5 E5 E5 ?_
 .intro args pre s h e;unfold b46 at h;split at h
  .rename_i a b c d p q r s;cases h;exact⟨(a,b,c,d,p,q,r,s),by simp[c64,BN,SV.le2,SV.le1,BJ,SV.le0],e,rfl⟩
  .cases h
 .exact C3
 .rintro⟨a,b,c,d,p,q,r,s⟩ ⟨⟨ha,hb,hc,hd⟩,f,g,j,hS⟩;refine X0a _ ?_;(repeat' first|constructor|intro h)<;>refine Lm ?_
  all_goals(first|rfl|(simp only[FJ]at*;refine⟨f,g,j,hS,?_⟩;omega))
def rowM(i:Nat)(a b c d:Int):Bool:=decide (tb [1,0,-1,0,-1,0,1,0] i=a)&&(decide (tb [0,-1,0,1,0,-1,0,1] i=b)&&(decide (tb [0,1,0,-1,0,-1,0,1] i=c)&&(decide (tb [1,0,-1,0,1,0,-1,0] i=d)&&true)))
def Rs(l:List Nat)(a b c d:Int):Int:=match l with
 | []=>0
 |i::l=>bif rowM i a b c d then i else Rs l a b c d
def numM(a b c d:Int):Int:=Rs [0,1,2,3,4,5,6,7] a b c d
def d98:SV:=.agg (QS 0++QS 1++QS 2++QS 3++QS 4++QS 5++QS 6++QS 7)
def INum:Int×Int×Int×Int->Nat->Option Inv
 |(a,b,c,d),2=>some {β:=Nat,ok:=λi=>i<=8/\numM a b c d=Rs ([0,1,2,3,4,5,6,7].drop i) a b c d,st:=λi=>⟨[⟨6,none,.int .i64 i⟩,⟨5,none,d98⟩,⟨2,none,.int .u8 0⟩,⟨1,none,.own 0 0⟩],[.cells 119 [.int .i64 a,.int .i64 b,.int .i64 c,.int .i64 d]]⟩,μ:=λi=>8-i}
 |_,_=>none
theorem Rn(i:Nat)(l:List Nat)(a b c d:Int)(h:rowM i a b c d=false):Rs (i::l) a b c d=Rs l a b c d:=by rw[Rs,h,cond_false]
theorem f69(i:Nat)(l:List Nat)(a b c d:Int)(h:rowM i a b c d=true):Rs (i::l) a b c d=i:=by rw[Rs,h,Nf]
def YK:AK
 | [.agg [.int .i64 a,.int .i64 b,.int .i64 c,.int .i64 d]]=>some (True,.int .u8 (numM a b c d))
 |_=>none
def d3i:Fam:=⟨Int×Int×Int×Int,λ(a,b,c,d)=>[.agg [.int .i64 a,.int .i64 b,.int .i64 c,.int .i64 d]],λ(_,_,_,_)=>True,λ(a,b,c,d)=>.int .u8 (numM a b c d)⟩
theorem d3b:PS 54 YK:=by
 refine con [] E6 d3i INum YK ?_ ?_ Tryz.func54 E5 E5 E5 ?_
 .intro args pre s h f;unfold YK at h;split at h
  .rename_i a b c d;cases h;exact⟨(a,b,c,d),by simp[d3i,BN,SV.le2,SV.le1,BJ,SV.le0],f,rfl⟩
  .cases h
 .exact C4
 .rintro⟨a,b,c,d⟩ f;replace f:True:=f;refine X0a _ ?_;(repeat' first|constructor|intro h)<;>refine Lm ?_
  refine⟨(0:Nat),⟨E4,rfl⟩,?_,?_⟩
  .exact X0d
  .intro i j;obtain⟨dw,e⟩:=j;have:i=0\/i=1\/i=2\/i=3\/i=4\/i=5\/i=6\/i=7\/i=8:=E4;rcases this with rfl|rfl|rfl|rfl|rfl|rfl|rfl|rfl|rfl;all_goals replace e:=e
   all_goals refine X0a _ ?_;(repeat' first|constructor|intro h)<;>refine Lm ?_
   all_goals(first
    |decide
    |exact A9
    |exact e.symm
    |exact(e.trans (f69 _ _ _ _ _ _ h)).symm
    |(first|refine⟨(1:Nat),⟨E7,e.trans (Rn 0 _ _ _ _ _ h)⟩,E7,?_⟩|refine⟨(2:Nat),⟨E7,e.trans (Rn 1 _ _ _ _ _ h)⟩,E7,?_⟩|refine⟨(3:Nat),⟨E7,e.trans (Rn 2 _ _ _ _ _ h)⟩,E7,?_⟩|refine⟨(4:Nat),⟨E7,e.trans (Rn 3 _ _ _ _ _ h)⟩,E7,?_⟩|refine⟨(5:Nat),⟨E7,e.trans (Rn 4 _ _ _ _ _ h)⟩,E7,?_⟩|refine⟨(6:Nat),⟨E7,e.trans (Rn 5 _ _ _ _ _ h)⟩,E7,?_⟩|refine⟨(7:Nat),⟨E7,e.trans (Rn 6 _ _ _ _ _ h)⟩,E7,?_⟩|refine⟨(8:Nat),⟨E7,e.trans (Rn 7 _ _ _ _ _ h)⟩,E7,?_⟩))
   all_goals exact X0g
def cT(t u:Int):Int:=numM (tA u*tA t+tB u*tC t) (tA u*tB t+tB u*tD t) (tC u*tA t+tD u*tC t) (tC u*tB t+tD u*tD t)
theorem cT_le{t u:Int}(a:0<=t)(h1:t<8)(k0:0<=u)(k1:u<8):0<=cT t u/\cT t u<8:=by have:∀q:Nat,q<8->∀r:Nat,r<8->0<=cT q r/\cT q r<8:=Ft;have:=this t.toNat E4 u.toNat E4;rwa[Mc a,Mc k0]at this
def b8f:AK
 | [.int .i64 n]=>some (True,.bool (or (decide (n< -16384)) (decide (16384<n))))
 |_=>none
def d2r:Fam:=⟨Int,λn=>[.int .i64 n],λ_=>True,λn=>.bool (or (decide (n< -16384)) (decide (16384<n)))⟩
theorem f7y:PS 47 b8f:=by
 refine con [] E6 d2r (λ_ _=>none) b8f ?_ ?_ Tryz.func47 E5 E5 E5 ?_
 .intro args pre s h a;unfold b8f at h;split at h
  .rename_i n;cases h;exact⟨n,by simp[d2r,BN,SV.le2,SV.le1,SV.le0],a,rfl⟩
  .cases h
 .exact C4
 .intro(n:Int) a;replace a:True:=a;refine X0a _ ?_;(repeat' first|constructor|intro h)<;>refine Lm ?_
  all_goals rfl
def CB(t x y:Int):Int:=if t<8/\ -16384<=x/\x<=16384/\ -16384<=y/\y<=16384/\(x+y)%2=0 then 0 else 1
theorem Pz{t x y:Int}(h:CB t x y=0):t<8/\ -16384<=x/\x<=16384/\ -16384<=y/\y<=16384/\(x+y)%2=0:=by
 unfold CB at h;split at h
 .assumption
 .cases h
theorem tmod2(n:Int):n.tmod 2=0↔n%2=0:=by rw[<-Int.dvd_iff_emod_eq_zero,Int.dvd_iff_tmod_eq_zero]
def OI:AK
 | [.agg [.int .u8 t,.int .i64 x,.int .i64 y]]=>some (0<=t/\t<=255,.int .i64 (CB t x y))
 |_=>none
def c61:Fam:=⟨Int×Int×Int,λ(t,x,y)=>[.agg [.int .u8 t,.int .i64 x,.int .i64 y]],λ(t,_,_)=>0<=t/\t<=255,λ(t,x,y)=>.int .i64 (CB t x y)⟩
theorem QO:PS 17 OI:=by
 refine con [(47,b8f)] (by simpa using f7y) c61 (λ_ _=>none) OI ?_ ?_ Tryz.func17 E5 E5 E5 ?_
 .intro args pre s h a;unfold OI at h;split at h
  .rename_i t x y;cases h;exact⟨(t,x,y),by simp[c61,BN,SV.le2,SV.le1,BJ,SV.le0],a,rfl⟩
  .cases h
 .exact C4
 .rintro⟨t,x,y⟩ a;replace a:0<=t/\t<=255:=a;refine X0a _ ?_;(repeat' first|constructor|intro h)<;>refine Lm ?_
  all_goals(try(simp only[Iy,Ip,Iv]at*))
  all_goals(first
   |decide
   |exact A9
   |(unfold CB;rw[if_neg E4])
   |(intro _;decide)
   |(intros;simp only[AD];omega)
   |(intros;unfold CB;rw[if_neg E4])
   |(have e:=tmod2 (x+y);unfold CB;rw[if_pos E4])
   |(have e:=tmod2 (x+y);unfold CB;rw[if_neg E4]))
def KL(t x y:Int):Int:=if CB t x y=0 then 0 else 3
def keep(e v:Int):Int:=if e=0 then v else 0
def Xl:AK
 | [.agg [.int .u8 t,.int .i64 x,.int .i64 y]]=>some (0<=t/\t<=255,.tup [.agg [.int .u8 (keep (KL t x y) t),.int .i64 (keep (KL t x y) x),.int .i64 (keep (KL t x y) y)],.int .i64 (KL t x y)])
 |_=>none
def c7m:Fam:=⟨Int×Int×Int,λ(t,x,y)=>[.agg [.int .u8 t,.int .i64 x,.int .i64 y]],λ(t,_,_)=>0<=t/\t<=255,λ(t,x,y)=>.tup [.agg [.int .u8 (keep (KL t x y) t),.int .i64 (keep (KL t x y) x),.int .i64 (keep (KL t x y) y)],.int .i64 (KL t x y)]⟩
theorem c7w:PS 53 Xl:=by
 refine con [(17,OI)] (by simpa using QO) c7m (λ_ _=>none) Xl ?_ ?_ Tryz.func53 E5 E5 E5 ?_
 .intro args pre s h a;unfold Xl at h;split at h
  .rename_i t x y;cases h;exact⟨(t,x,y),by simp[c7m,BN,SV.le2,SV.le1,BJ,SV.le0],a,rfl⟩
  .cases h
 .exact C4
 .rintro⟨t,x,y⟩ a;replace a:0<=t/\t<=255:=a;refine X0a _ ?_;(repeat' first|constructor|intro h)<;>refine Lm ?_
  all_goals(try exact a)
  all_goals(simp only[Ip,Iv]at h)
  all_goals(simp[keep,KL,h])
def XE:AK
 | [.agg [.int .u8 t,.int .i64 x,.int .i64 y]]=>some (0<=t/\t<=255,.bool (and (decide (CB t x y=0)) (decide (4<=t))))
 |_=>none
def f2t:Fam:=⟨Int×Int×Int,λ(t,x,y)=>[.agg [.int .u8 t,.int .i64 x,.int .i64 y]],λ(t,_,_)=>0<=t/\t<=255,λ(t,x,y)=>.bool (and (decide (CB t x y=0)) (decide (4<=t)))⟩
theorem f39:PS 45 XE:=by
 refine con [(17,OI)] (by simpa using QO) f2t (λ_ _=>none) XE ?_ ?_ Tryz.func45 E5 E5 E5 ?_
 .intro args pre s h a;unfold XE at h;split at h
  .rename_i t x y;cases h;exact⟨(t,x,y),by simp[f2t,BN,SV.le2,SV.le1,BJ,SV.le0],a,rfl⟩
  .cases h
 .exact C4
 .rintro⟨t,x,y⟩ a;replace a:0<=t/\t<=255:=a;refine X0a _ ?_;(repeat' first|constructor|intro h)<;>refine Lm ?_
  all_goals(first|exact a|rfl|skip)
def b2w:AK
 | []=>some (True,.agg [.int .u8 0,.int .i64 0,.int .i64 0])
 |_=>none
def d0s:Fam:=⟨Unit,λ_=>[],λ_=>True,λ_=>.agg [.int .u8 0,.int .i64 0,.int .i64 0]⟩
theorem d70:PS 72 b2w:=by
 refine con [] E6 d0s (λ_ _=>none) b2w ?_ ?_ Tryz.func72 E5 E5 E5 ?_
 .intro args pre s h a;unfold b2w at h;split at h
  .cases h;exact⟨(),Ji,Ji,rfl⟩
  .cases h
 .intro i;show 0<=_;decide
 .intro i a;refine X0a _ ?_;(repeat' first|constructor|intro h)<;>refine Lm ?_
theorem d8i(k C:Int):DV k C=0\/DV k C=1:=by unfold DV;split<;>simp
def Oi(k:Int):Int:=if k=1 then 4 else if k=2 then 6 else if k=3 then 5 else 7
def RB(k C:Int):Int:=if k=1 then 2*C else if k=2 then 0 else if k=3 then C else -C
def Rf(k C:Int):Int:=if k=1 then 0 else if k=2 then 2*C else C
def d6c:AK
 | [.agg [.int .u8 k,.int .i64 C]]=>some (True,.tup [.agg [.int .u8 (keep (DV k C) (Oi k)),.int .i64 (keep (DV k C) (RB k C)),.int .i64 (keep (DV k C) (Rf k C))],.int .i64 (DV k C)])
 |_=>none
def FMvOf:Fam:=⟨Int×Int,λ(k,C)=>[.agg [.int .u8 k,.int .i64 C]],λ(_,_)=>True,λ(k,C)=>.tup [.agg [.int .u8 (keep (DV k C) (Oi k)),.int .i64 (keep (DV k C) (RB k C)),.int .i64 (keep (DV k C) (Rf k C))],.int .i64 (DV k C)]⟩
theorem pMvOf:PS 55 d6c:=by
 refine con [(86,Wx)] (by simpa using c6t) FMvOf (λ_ _=>none) d6c ?_ ?_ Tryz.func55 E5 E5 E5 ?_
 .intro args pre s h a;unfold d6c at h;split at h
  .rename_i k C;cases h;exact⟨(k,C),by simp[FMvOf,BN,SV.le2,SV.le1,BJ,SV.le0],a,rfl⟩
  .cases h
 .exact C4
 .rintro⟨k,C⟩ a;replace a:True:=a;refine X0a _ ?_;(repeat' first|constructor|intro h)<;>refine Lm ?_
  all_goals(have e:=d8i k C;have e':=@b3b k C)
  all_goals(try simp only[AD])
  all_goals grind[keep,Oi,RB,Rf]
def JR(t x y:Int):Int:=tA t*x+tB t*y
def JS(t x y:Int):Int:=tC t*x+tD t*y
def GI(t x y u z w:Int):Int:=if CB t x y=0/\CB u z w=0 then KL (cT t u) (JR u x y+z) (JS u x y+w)else 1
def Qn(t x y u z w:Int):Int:=keep (GI t x y u z w) (cT t u)
def WY(t x y u z w:Int):Int:=keep (GI t x y u z w) (JR u x y+z)
def Uz(t x y u z w:Int):Int:=keep (GI t x y u z w) (JS u x y+w)
theorem c4n{t x y B:Int}(a:0<=t)(b:t<8)(a1: -B<=x)(a2:x<=B)(b1: -B<=y)(b2:y<=B): -(2*B)<=JR t x y/\JR t x y<=2*B/\ -(2*B)<=JS t x y/\JS t x y<=2*B:=by obtain⟨c,d,e,f⟩:=Vn a b;have e1:=Ox (x:=x) c;have e2:=Ox (x:=y) d;have e3:=Ox (x:=x) e;have e4:=Ox (x:=y) f;unfold JR JS;omega
def VE:AK
 | [.agg [.int .u8 t,.int .i64 x,.int .i64 y],.agg [.int .u8 u,.int .i64 z,.int .i64 w]]=>some ((0<=t/\t<=255)/\0<=u/\u<=255,.tup [.agg [.int .u8 (Qn t x y u z w),.int .i64 (WY t x y u z w),.int .i64 (Uz t x y u z w)],.int .i64 (GI t x y u z w)])
 |_=>none
def FThen:Fam:=⟨Int×Int×Int×Int×Int×Int,λ(t,x,y,u,z,w)=>[.agg [.int .u8 t,.int .i64 x,.int .i64 y],.agg [.int .u8 u,.int .i64 z,.int .i64 w]],λ(t,_,_,u,_,_)=>(0<=t/\t<=255)/\0<=u/\u<=255,λ(t,x,y,u,z,w)=>.tup [.agg [.int .u8 (Qn t x y u z w),.int .i64 (WY t x y u z w),.int .i64 (Uz t x y u z w)],.int .i64 (GI t x y u z w)]⟩
theorem f87 : PS 83 VE := by
  refine con [(17, OI), (52, TE), (120, b46), (54, YK), (53, Xl)] (by simpa using ⟨QO, c7a, d7j, d3b, c7w⟩) FThen (λ_ _ => none) VE ?_ ?_ Tryz.func83 E5 E5 E5 ?_
  · intro args pre s h a
    unfold VE at h
    split at h
    · rename_i t x y u z w; cases h; exact ⟨(t, x, y, u, z, w), by simp [FThen, BN, SV.le2, SV.le1, BJ, SV.le0], a, rfl⟩
    · cases h
  · exact C3
  · rintro ⟨t, x, y, u, z, w⟩ a
    replace a : (0 ≤ t ∧ t ≤ 255) ∧ 0 ≤ u ∧ u ≤ 255 := a
    refine AB _ ?_; (repeat' first | constructor | refine Iu λhu => ?_ | intro h)<;>refine Lm ?_
    all_goals (first
      | exact a.1
      | exact λ_ => a.2
      | (have e : GI t x y u z w = 1 := by grind [GI]
         simp [Qn, WY, Uz, keep, e]; done)
      | (rw [Lz] at h
         have f : CB t x y = 0 := by simpa using h.1
         have g : CB u z w = 0 := by simpa using h.2
         have j := Pz f
         have d := Pz g
         have r := c4n (t := u) (x := x) (y := y) (B := 16384) a.2.1 d.1 E4 E4 E4 E4
         have c := cT_le a.1.1 j.1 a.2.1 d.1
         have k := Vn a.1.1 j.1
         have b := Vn a.2.1 d.1
         first
         | (constructor <;> omega)
         | exact ⟨b.1, b.2.1, b.2.2.1, b.2.2.2, E4, E4, E4, E4⟩
         | exact ⟨k, b⟩
         | (change AD .i64 (JR u x y + z); simp only [AD]; omega)
         | (change AD .i64 (JS u x y + w); simp only [AD]; omega)
         | (refine ⟨c.1, ?_⟩; change cT t u ≤ 255; omega)
         | (have e : GI t x y u z w = KL (cT t u) (JR u x y + z) (JS u x y + w) := by unfold GI; rw [if_pos ⟨f, g⟩]
            first | exact e.symm | (unfold Qn; rw [e]; rfl) | (unfold WY; rw [e]; rfl) | (unfold Uz; rw [e]; rfl)))
      | skip)
def QE(t x y a b:Int):Int:=if CB t x y=0/\LK a b=0 then(if LK (JR t a b+2*x) (JS t a b+2*y)=0 then 0 else 3)else 1
def OB(t x y a b:Int):Int:=keep (QE t x y a b) (JR t a b+2*x)
def NX(t x y a b:Int):Int:=keep (QE t x y a b) (JS t a b+2*y)
def b4j:AK
 | [.agg [.int .u8 t,.int .i64 x,.int .i64 y],.agg [.int .i64 a,.int .i64 b]]=>some (0<=t/\t<=255,.tup [.agg [.int .i64 (OB t x y a b),.int .i64 (NX t x y a b)],.int .i64 (QE t x y a b)])
 |_=>none
def c7j:Fam:=⟨Int×Int×Int×Int×Int,λ(t,x,y,a,b)=>[.agg [.int .u8 t,.int .i64 x,.int .i64 y],.agg [.int .i64 a,.int .i64 b]],λ(t,_,_,_,_)=>0<=t/\t<=255,λ(t,x,y,a,b)=>.tup [.agg [.int .i64 (OB t x y a b),.int .i64 (NX t x y a b)],.int .i64 (QE t x y a b)]⟩
theorem d9u : PS 197 b4j := by
  refine con [(17, OI), (52, TE), (233, b48)] (by simpa using ⟨QO, c7a, f26⟩) c7j (λ_ _ => none) b4j ?_ ?_ Tryz.func197 E5 E5 E5 ?_
  · intro args pre s h c
    unfold b4j at h
    split at h
    · rename_i t x y a b; cases h; exact ⟨(t, x, y, a, b), by simp [c7j, BN, SV.le2, SV.le1, BJ, SV.le0], c, rfl⟩
    · cases h
  · exact C3
  · rintro ⟨t, x, y, a, b⟩ c
    replace c : 0 ≤ t ∧ t ≤ 255 := c
    refine AB _ ?_; (repeat' first | constructor | refine Iu λhu => ?_ | intro h)<;>refine Lm ?_
    all_goals (first
      | exact c
      | (have e : QE t x y a b = 1 := by grind [QE]
         simp [OB, NX, keep, e]; done)
      | (have f : (!decide (CB t x y = 0) || !decide (LK a b = 0)) = false := by assumption
         rw [Lz] at f
         have g : CB t x y = 0 := by simpa using f.1
         have j : LK a b = 0 := by simpa using f.2
         have k := Pz g
         have m2 := d02 j
         have r := c4n (t := t) (x := a) (y := b) (B := 65536) c.1 k.1 E4 E4 E4 E4
         have d := Vn c.1 k.1
         first
         | (constructor <;> omega)
         | exact ⟨d.1, d.2.1, d.2.2.1, d.2.2.2, E4, E4, E4, E4⟩
         | (change AD .i64 (JR t a b + 2 * x); simp only [AD]; omega)
         | (change AD .i64 (JS t a b + 2 * y); simp only [AD]; omega)
         | exact A9
         | (have e : QE t x y a b = (if LK (JR t a b + 2 * x) (JS t a b + 2 * y) = 0 then 0 else 3) := by unfold QE; rw [if_pos ⟨g, j⟩]
            first
            | (have q : LK (JR t a b + 2 * x) (JS t a b + 2 * y) = 0 := by (change (!decide (LK (JR t a b + 2 * x) (JS t a b + 2 * y) = 0)) = false at h; simpa using h)
               rw [Jf q] at e
               simp only [OB, NX, keep, e, Kt]; try rfl)
            | (have q : ¬ LK (JR t a b + 2 * x) (JS t a b + 2 * y) = 0 := by (change (!decide (LK (JR t a b + 2 * x) (JS t a b + 2 * y) = 0)) = true at h; simpa using h)
               rw [Jg q] at e
               simp [OB, NX, keep, e]; done)))
      | skip)
def AO(W H:Int):Int:=if 1<=W/\1<=H/\W<=256/\H<=256/\W*H<=256 then 0 else 1
theorem c2x{W H:Int}(c:1<=W)(d:1<=H)(e:W<=256)(f:H<=256):1<=W*H/\W*H<=65536:=by have a:1*1<=W*H:=Int.mul_le_mul c d E4 E4;have b:W*H<=256*256:=Int.mul_le_mul e f E4 E4;omega
def QC:AK
 | [.agg [.int .i64 W,.int .i64 H]]=>some (True,.int .i64 (AO W H))
 |_=>none
def b3s:Fam:=⟨Int×Int,λ(W,H)=>[.agg [.int .i64 W,.int .i64 H]],λ_=>True,λ(W,H)=>.int .i64 (AO W H)⟩
theorem Td:PS 96 QC:=by
 refine con [] E6 b3s (λ_ _=>none) QC ?_ ?_ Tryz.func96 E5 E5 E5 ?_
 .intro args pre s h hp;unfold QC at h;split at h
  .rename_i W H;cases h;exact⟨(W,H),by simp[b3s,BN,SV.le2,SV.le1,BJ,SV.le0],Ji,rfl⟩
  .cases h
 .exact C4
 .rintro⟨W,H⟩-;refine X0a _ ?_;(repeat' first|constructor|intro h)<;>refine Lm ?_
  .intro h;simp at h;have:=c2x (W:=W) (H:=H) E4 E4 E4 E4;simp only[AD];omega
  .simp[AO]at h⊢;omega
  .simp[AO]at h⊢;omega
def SY(W H i:Int):Bool:=decide (0<=i)&&decide (i<4*W*H)
def kHas:AK
 | [.agg [.int .i64 W,.int .i64 H],.int .i64 i]=>some (AO W H=0,.bool (SY W H i))
 |_=>none
def FHas:Fam:=⟨Int×Int×Int,λ(W,H,i)=>[.agg [.int .i64 W,.int .i64 H],.int .i64 i],λ(W,H,_)=>AO W H=0,λ(W,H,i)=>.bool (SY W H i)⟩
theorem QZ{W H:Int}(h:AO W H=0):1<=W/\1<=H/\W<=256/\H<=256/\1<=W*H/\W*H<=256/\4*W*H=4*(W*H):=by
 unfold AO at h;split at h
 .rename_i e;obtain⟨a,b,c,d,f⟩:=e;have:=c2x a b c d;exact⟨a,b,c,d,this.1,f,M7 _ _ _⟩
 .cases h
theorem pHas:PS 163 kHas:=by
 refine con [] E6 FHas (λ_ _=>none) kHas ?_ ?_ Tryz.func163 E5 E5 E5 ?_
 .intro args pre s h a;unfold kHas at h;split at h
  .rename_i W H i;cases h;exact⟨(W,H,i),by simp[FHas,BN,SV.le2,SV.le1,BJ,SV.le0],a,rfl⟩
  .cases h
 .exact C3
 .rintro⟨W,H,i⟩ a;obtain⟨h1,h2,h3,h4,h5,h6,h7⟩:=QZ a;refine X0a _ ?_;(repeat' first|constructor|intro h)<;>refine Lm ?_
  .intro _;simp only[AD];omega
  .intro _;simp only[AD];omega
  all_goals rfl
def YQ:AK
 | [.agg [.int .i64 W,.int .i64 _],.int .i64 i]=>some (1<=W/\W<=256/\0<=i/\i<=1024,.agg [.int .i64 (i/4%W),.int .i64 (i/4/W),.int .u8 (i%4)])
 |_=>none
def FCell:Fam:=⟨Int×Int×Int,λ(W,H,i)=>[.agg [.int .i64 W,.int .i64 H],.int .i64 i],λ(W,_,i)=>1<=W/\W<=256/\0<=i/\i<=1024,λ(W,_,i)=>.agg [.int .i64 (i/4%W),.int .i64 (i/4/W),.int .u8 (i%4)]⟩
theorem pCell:PS 164 YQ:=by
 refine con [] E6 FCell (λ_ _=>none) YQ ?_ ?_ Tryz.func164 E5 E5 E5 ?_
 .intro args pre s h b;unfold YQ at h;split at h
  .rename_i W H i;cases h;exact⟨(W,H,i),by simp[FCell,BN,SV.le2,SV.le1,BJ,SV.le0],b,rfl⟩
  .cases h
 .exact C3
 .rintro⟨W,H,i⟩ ⟨h1,h2,a,h4⟩;have c:i.tdiv 4=i/4:=Lw a;have d:i.tmod 4=i%4:=Km a;have e:(i/4).tdiv W=i/4/W:=Lw E4;have f:(i/4).tmod W=i/4%W:=Km E4;have a5:i/4/W<=i/4:=Int.ediv_le_self _ E4;have a6:0<=i/4/W:=Int.ediv_nonneg E4 E4;refine X0a _ ?_;(repeat' first|constructor|intro h)<;>refine Lm ?_
  all_goals(try simp only[c,d,e,f])
  all_goals(try simp only[AD])
  all_goals omega
def DQ(X Y Q:Int):Int:=if -4096<=X/\X<=4096/\ -4096<=Y/\Y<=4096/\Q<=3 then 0 else 1
def Qu:AK
 | [.agg [.int .i64 X,.int .i64 Y,.int .u8 Q]]=>some (True,.int .i64 (DQ X Y Q))
 |_=>none
def b4x:Fam:=⟨Int×Int×Int,λ(X,Y,Q)=>[.agg [.int .i64 X,.int .i64 Y,.int .u8 Q]],λ_=>True,λ(X,Y,Q)=>.int .i64 (DQ X Y Q)⟩
theorem Ul:PS 123 Qu:=by
 refine con [] E6 b4x (λ_ _=>none) Qu ?_ ?_ Tryz.func123 E5 E5 E5 ?_
 .intro args pre s h hp;unfold Qu at h;split at h
  .rename_i X Y Q;cases h;exact⟨(X,Y,Q),by simp[b4x,BN,SV.le2,SV.le1,BJ,SV.le0],Ji,rfl⟩
  .cases h
 .exact C4
 .rintro⟨X,Y,Q⟩-;refine X0a _ ?_;(repeat' first|constructor|intro h)<;>refine Lm ?_
  .simp[DQ]at h⊢;omega
  .simp[DQ]at h⊢;omega
theorem TF{X Y Q:Int}(h:DQ X Y Q=0): -4096<=X/\X<=4096/\ -4096<=Y/\Y<=4096/\Q<=3:=by
 unfold DQ at h;split at h
 .assumption
 .cases h
def KU(W H i:Int):Int:=if AO W H=0 then if SY W H i=true then 0 else 7 else 1
def BT(W H i:Int):Int:=if KU W H i=0 then i/4%W else 0
def BU(W H i:Int):Int:=if KU W H i=0 then i/4/W else 0
def BZ(W H i:Int):Int:=if KU W H i=0 then i%4 else 0
theorem b4b(W H:Int):AO W H=0\/AO W H=1:=by unfold AO;split<;>simp
def VZ:AK
 | [.agg [.int .i64 W,.int .i64 H],.int .i64 i]=>some (True,.tup [.agg [.int .i64 (BT W H i),.int .i64 (BU W H i),.int .u8 (BZ W H i)],.int .i64 (KU W H i)])
 |_=>none
def b5g:Fam:=⟨Int×Int×Int,λ(W,H,i)=>[.agg [.int .i64 W,.int .i64 H],.int .i64 i],λ_=>True,λ(W,H,i)=>.tup [.agg [.int .i64 (BT W H i),.int .i64 (BU W H i),.int .u8 (BZ W H i)],.int .i64 (KU W H i)]⟩
theorem b26:PS 118 VZ:=by
 refine con [(96,QC),(163,kHas),(164,YQ)] (by simpa using⟨Td,pHas,pCell⟩) b5g (λ_ _=>none) VZ ?_ ?_ Tryz.func118 E5 E5 E5 ?_
 .intro args pre s h hp;unfold VZ at h;split at h
  .rename_i W H i;cases h;exact⟨(W,H,i),by simp[b5g,BN,SV.le2,SV.le1,BJ,SV.le0],Ji,rfl⟩
  .cases h
 .exact C3
 .rintro⟨W,H,i⟩-;refine X0a _ ?_;(repeat' first|constructor|intro h)<;>refine Lm ?_
  all_goals(try simp only[BT,BU,BZ,KU])
  all_goals(try simp at h)
  all_goals(first|(simp[h];done)|skip)
  all_goals(try(rename_i a;simp at a;simp[h,a];done))
  .rw[Jg h];exact(b4b W H).resolve_left h
  .rename_i a;simp at a;obtain⟨h1,h2,h3,h4,h5,h6,h7⟩:=QZ a;simp[SY]at h;omega
def EE(Q e:Int):Int:=[tb [0,1,0,-1] Q.toNat,tb [0,0,0,0] Q.toNat,tb [0,0,0,0] Q.toNat].getD e.toNat 0
def EJ(Q e:Int):Int:=[tb [-1,0,1,0] Q.toNat,tb [0,0,0,0] Q.toNat,tb [0,0,0,0] Q.toNat].getD e.toNat 0
def EL(Q e:Int):Int:=[tb [2,3,0,1] Q.toNat,tb [1,0,3,2] Q.toNat,tb [3,2,1,0] Q.toNat].getD e.toNat 0
def GF(X Y Q e:Int):Int:=if DQ X Y Q=0/\e<=2 then(if DQ (EE Q e+X) (EJ Q e+Y) (EL Q e)=0 then 0 else 3)else 1
def JG(X Y Q e:Int):Int:=if GF X Y Q e=0 then EE Q e+X else 0
def JI(X Y Q e:Int):Int:=if GF X Y Q e=0 then EJ Q e+Y else 0
def ID(X Y Q e:Int):Int:=if GF X Y Q e=0 then EL Q e else 0
theorem f5f{Q e:Int}(a:0<=Q)(h2:Q<=3)(b:0<=e)(h4:e<=2): -1<=EE Q e/\EE Q e<=1/\ -1<=EJ Q e/\EJ Q e<=1/\0<=EL Q e/\EL Q e<=3:=by have:∀q:Nat,q<4->∀e:Nat,e<3-> -1<=EE q e/\EE q e<=1/\ -1<=EJ q e/\EJ q e<=1/\0<=EL q e/\EL q e<=3:=E7;have:=this Q.toNat E4 e.toNat E4;rwa[Mc a,Mc b]at this
def Vk:AK
 | [.agg [.int .i64 X,.int .i64 Y,.int .u8 Q],.int .u8 e]=>some (0<=Q/\0<=e,.tup [.agg [.int .i64 (JG X Y Q e),.int .i64 (JI X Y Q e),.int .u8 (ID X Y Q e)],.int .i64 (GF X Y Q e)])
 |_=>none
def b18:Fam:=⟨Int×Int×Int×Int,λ(X,Y,Q,e)=>[.agg [.int .i64 X,.int .i64 Y,.int .u8 Q],.int .u8 e],λ(_,_,Q,e)=>0<=Q/\0<=e,
 λ(X,Y,Q,e)=>.tup [.agg [.int .i64 (JG X Y Q e),.int .i64 (JI X Y Q e),.int .u8 (ID X Y Q e)],.int .i64 (GF X Y Q e)]⟩
theorem b05:PS 129 Vk:=by
 refine con [(123,Qu)] (by simpa using Ul) b18 (λ_ _=>none) Vk ?_ ?_ Tryz.func129 E5 E5 E5 ?_
 .intro args pre s h f;unfold Vk at h;split at h
  .rename_i X Y Q e;cases h;exact⟨(X,Y,Q,e),by simp[b18,BN,SV.le2,SV.le1,BJ,SV.le0],f,rfl⟩
  .cases h
 .exact C3
 .rintro⟨X,Y,Q,e⟩ ⟨c,d⟩;refine X0a _ ?_;(repeat' first|constructor|intro h)<;>refine Lm ?_
  all_goals(try simp only[JG,JI,ID])
  all_goals(try(have a:GF X Y Q e=1:=by simp[GF];simp at h;omega);simp[a];done)
  .simp at h;have:=TF h.1;omega
  .simp at h;omega
  all_goals(try(change AD .i64 (EE Q e+X);simp at h;have:=TF h.1;have n:=f5f c E4 d E4;simp only[AD];omega))
  all_goals(try(change AD .i64 (EJ Q e+Y);simp at h;have:=TF h.1;have n:=f5f c E4 d E4;simp only[AD];omega))
  all_goals(rename_i b;simp at b)
  all_goals(change (!decide (DQ (EE Q e+X) (EJ Q e+Y) (EL Q e)=0))=_ at h;simp at h)
  all_goals(try(have a:GF X Y Q e=3:=by simp[GF,b,h]);simp[a];done)
  all_goals(have a:GF X Y Q e=0:=by simp[GF,b,h])
  all_goals(simp only[a,Kt])
  .rfl
  .rfl
  .rfl
def LS(W H X Y Q:Int):Int:=if AO W H=0 then(if DQ X Y Q=0/\0<=X/\X<W/\0<=Y/\Y<H then 0 else 7)else 1
def QW(W H X Y Q:Int):Int:=if LS W H X Y Q=0 then 4*(Y*W+X)+Q else 0
def kId:AK
 | [.agg [.int .i64 W,.int .i64 H],.agg [.int .i64 X,.int .i64 Y,.int .u8 Q]]=>some (0<=Q,.tup [.int .i64 (QW W H X Y Q),.int .i64 (LS W H X Y Q)])
 |_=>none
def FId:Fam:=⟨Int×Int×Int×Int×Int,λ(W,H,X,Y,Q)=>[.agg [.int .i64 W,.int .i64 H],.agg [.int .i64 X,.int .i64 Y,.int .u8 Q]],λ(_,_,_,_,Q)=>0<=Q,
 λ(W,H,X,Y,Q)=>.tup [.int .i64 (QW W H X Y Q),.int .i64 (LS W H X Y Q)]⟩
theorem f83{W H X Y:Int}(h:AO W H=0)(_:0<=X)(h2:X<W)(a:0<=Y)(h4:Y<H):0<=Y*W/\Y*W+X<W*H/\W*H<=256:=by
 obtain⟨a1,a2,a3,a4,a5,a6,a7⟩:=QZ h;have b:Y*W<=(H-1)*W:=Int.mul_le_mul_of_nonneg_right E4 E4;have c:(H-1)*W=W*H-W:=by rw[Int.sub_mul,Int.one_mul,Int.mul_comm]
 have d:0<=Y*W:=Int.mul_nonneg a E4;omega
theorem pId:PS 149 kId:=by
 refine con [(96,QC),(123,Qu)] (by simpa using⟨Td,Ul⟩) FId (λ_ _=>none) kId ?_ ?_ Tryz.func149 E5 E5 E5 ?_
 .intro args pre s h f;unfold kId at h;split at h
  .rename_i W H X Y Q;cases h;exact⟨(W,H,X,Y,Q),by simp[FId,BN,SV.le2,SV.le1,BJ,SV.le0],f,rfl⟩
  .cases h
 .exact C3
 .rintro⟨W,H,X,Y,Q⟩ e;replace e:0<=Q:=e;refine X0a _ ?_;(repeat' first|constructor|intro h)<;>refine Lm ?_
  all_goals(try(have a:LS W H X Y Q=1:=by(simp at h;simp[LS,h]));rw[QW,a];rfl)
  .simp at h;rw[LS,Jg h];exact(b4b W H).resolve_left h
  all_goals(try((have a:LS W H X Y Q=7:=by(rename_i d;simp at d;simp at h;rw[LS,Jf d,Jg];omega));first|exact a.symm|(rw[QW,a];rfl)))
  all_goals(rename_i d;simp at d;simp at h)
  all_goals(have b:=f83 (X:=X) (Y:=Y) d E4 E4 E4 E4;have c:=TF h.1.1.1.1)
  all_goals(try(simp only[AD];omega))
  all_goals(have a:LS W H X Y Q=0:=by rw[LS,Jf d,Jf];omega)
  .rw[QW,a];rfl
  .exact a.symm
def AW(W H i e:Int):Int:=if KU W H i=0 then(if GF (BT W H i) (BU W H i) (BZ W H i) e=0 then LS W H (JG (BT W H i) (BU W H i) (BZ W H i) e) (JI (BT W H i) (BU W H i) (BZ W H i) e) (ID (BT W H i) (BU W H i) (BZ W H i) e)else 1)else KU W H i
def AH(W H i e:Int):Int:=if KU W H i=0 then(if GF (BT W H i) (BU W H i) (BZ W H i) e=0 then QW W H (JG (BT W H i) (BU W H i) (BZ W H i) e) (JI (BT W H i) (BU W H i) (BZ W H i) e) (ID (BT W H i) (BU W H i) (BZ W H i) e)else 0)else 0
theorem TN(W H i:Int):0<=BZ W H i/\BZ W H i<=3:=by unfold BZ;split<;>omega
theorem d2f{X Y Q e:Int}(b:0<=Q)(c:0<=e):0<=ID X Y Q e/\ID X Y Q e<=3:=by
 unfold ID;split
 .rename_i h;unfold GF at h;split at h
  .rename_i a;have:=TF a.1;have:=f5f b E4 c a.2;omega
  .cases h
 .omega
def Tx:AK
 | [.agg [.int .i64 W,.int .i64 H],.int .i64 i,.int .u8 e]=>some (0<=e,.tup [.int .i64 (AH W H i e),.int .i64 (AW W H i e)])
 |_=>none
def b75:Fam:=⟨Int×Int×Int×Int,λ(W,H,i,e)=>[.agg [.int .i64 W,.int .i64 H],.int .i64 i,.int .u8 e],λ(_,_,_,e)=>0<=e,
 λ(W,H,i,e)=>.tup [.int .i64 (AH W H i e),.int .i64 (AW W H i e)]⟩
theorem b1f:PS 110 Tx:=by
 refine con [(118,VZ),(129,Vk),(149,kId)] (by simpa using⟨b26,b05,pId⟩) b75 (λ_ _=>none) Tx ?_ ?_ Tryz.func110 E5 E5 E5 ?_
 .intro args pre s h b;unfold Tx at h;split at h
  .rename_i W H i e;cases h;exact⟨(W,H,i,e),by simp[b75,BN,SV.le2,SV.le1,BJ,SV.le0],b,rfl⟩
  .cases h
 .exact C5
 .rintro⟨W,H,i,e⟩ a;replace a:0<=e:=a;refine X0a _ ?_;(repeat' first|constructor|intro h)<;>refine Lm ?_
  all_goals(try exact a)
  all_goals(try exact(TN W H i).1)
  all_goals(try exact⟨(TN W H i).1,a⟩)
  all_goals(try exact(d2f (TN W H i).1 a).1)
  all_goals(simp at h;(try rename_i c;simp at c);simp[AW,AH, *])
def c0u:AK
 | [.agg [.int .i64 X,.int .i64 Y,.int .u8 _]]=>some (-5000<=X/\X<=5000/\ -5000<=Y/\Y<=5000,.agg [.int .i64 (2*X+1),.int .i64 (2*Y+1)])
 |_=>none
def d4w:Fam:=⟨Int×Int×Int,λ(X,Y,Q)=>[.agg [.int .i64 X,.int .i64 Y,.int .u8 Q]],λ(X,Y,_)=> -5000<=X/\X<=5000/\ -5000<=Y/\Y<=5000,λ(X,Y,_)=>.agg [.int .i64 (2*X+1),.int .i64 (2*Y+1)]⟩
theorem g0y:PS 196 c0u:=by
 refine con [] E6 d4w (λ_ _=>none) c0u ?_ ?_ Tryz.func196 E5 E5 E5 ?_
 .intro args pre s h a;unfold c0u at h;split at h
  .rename_i X Y Q;cases h;exact⟨(X,Y,Q),by simp[d4w,BN,SV.le2,SV.le1,BJ,SV.le0],a,rfl⟩
  .cases h
 .exact C4
 .rintro⟨X,Y,Q⟩ a;replace a: -5000<=X/\X<=5000/\ -5000<=Y/\Y<=5000:=a;exact X0f
def o1(Q:Int):Int:=tb [0,2,2,0] Q.toNat
def o2(Q:Int):Int:=tb [2,2,0,0] Q.toNat
def CT(a b:Int):Int:=if a<b then -1 else if a>b then 1 else 0
def kNaN:AK
 | [.int .i64 _]=>some (True,.bool false)
 |_=>none
def FNaN:Fam:=⟨Int,λa=>[.int .i64 a],λ_=>True,λ_=>.bool false⟩
theorem pNaN:PS 153 kNaN:=by
 refine con [] E6 FNaN (λ_ _=>none) kNaN ?_ ?_ Tryz.func153 E5 E5 E5 ?_
 .intro args pre s h b;unfold kNaN at h;split at h
  .rename_i a;cases h;exact⟨a,by simp[FNaN,BN,SV.le2,SV.le1,SV.le0],b,rfl⟩
  .cases h
 .exact C4
 .intro(a:Int) b;replace b:True:=b;refine X0a _ ?_;(repeat' first|constructor|intro h)<;>refine Lm ?_
  all_goals simp
def f1m:AK
 | [.int .u8 _]=>some (True,.bool false)
 |_=>none
def FNaN8:Fam:=⟨Int,λa=>[.int .u8 a],λ_=>True,λ_=>.bool false⟩
theorem pNaN8:PS 191 f1m:=by
 refine con [] E6 FNaN8 (λ_ _=>none) f1m ?_ ?_ Tryz.func191 E5 E5 E5 ?_
 .intro args pre s h b;unfold f1m at h;split at h
  .rename_i a;cases h;exact⟨a,by simp[FNaN8,BN,SV.le2,SV.le1,SV.le0],b,rfl⟩
  .cases h
 .exact C4
 .intro(a:Int) b;replace b:True:=b;refine X0a _ ?_;(repeat' first|constructor|intro h)<;>refine Lm ?_
  all_goals simp
def Ti:AK
 | [.int .i64 a,.int .i64 b]=>some (True,.int .i64 (CT a b))
 |_=>none
def FCmp:Fam:=⟨Int×Int,λ(a,b)=>[.int .i64 a,.int .i64 b],λ(_,_)=>True,λ(a,b)=>.int .i64 (CT a b)⟩
theorem pCmp:PS 115 Ti:=by
 refine con [(153,kNaN)] (by simpa using pNaN) FCmp (λ_ _=>none) Ti ?_ ?_ Tryz.func115 E5 E5 E5 ?_
 .intro args pre s h c;unfold Ti at h;split at h
  .rename_i a b;cases h;exact⟨(a,b),by simp[FCmp,BN,SV.le2,SV.le1,SV.le0],c,rfl⟩
  .cases h
 .exact C3
 .rintro⟨a,b⟩ c;replace c:True:=c;refine X0a _ ?_;(repeat' first|constructor|intro h)<;>refine Lm ?_
  all_goals(first|(simp at h;done)|(rename_i d;simp at d;done)|(simp at h;(try rename_i d;simp at d);simp[CT, *]<;>omega))
def d9t:AK
 | [.int .u8 a,.int .u8 b]=>some (True,.int .i64 (CT a b))
 |_=>none
def FCmp8:Fam:=⟨Int×Int,λ(a,b)=>[.int .u8 a,.int .u8 b],λ(_,_)=>True,λ(a,b)=>.int .i64 (CT a b)⟩
theorem pCmp8:PS 143 d9t:=by
 refine con [(191,f1m)] (by simpa using pNaN8) FCmp8 (λ_ _=>none) d9t ?_ ?_ Tryz.func143 E5 E5 E5 ?_
 .intro args pre s h c;unfold d9t at h;split at h
  .rename_i a b;cases h;exact⟨(a,b),by simp[FCmp8,BN,SV.le2,SV.le1,SV.le0],c,rfl⟩
  .cases h
 .exact C3
 .rintro⟨a,b⟩ c;replace c:True:=c;refine X0a _ ?_;(repeat' first|constructor|intro h)<;>refine Lm ?_
  all_goals(first|(simp at h;done)|(rename_i d;simp at d;done)|(simp at h;(try rename_i d;simp at d);simp[CT, *]<;>omega))
def IC(Q:Int):Int:=tb [2,1,2,1] Q.toNat
def JU(Q:Int):Int:=tb [0,1,1,0] Q.toNat
theorem lq_le{Q:Int}(a:0<=Q)(h1:Q<=3):(IC Q=1\/IC Q=2)/\0<=JU Q/\JU Q<=1:=by have:∀q:Nat,q<4->(IC q=1\/IC q=2)/\0<=JU q/\JU q<=1:=E7;have:=this Q.toNat E4;rwa[Mc a]at this
def CW(Q e:Int):Int:=if e=1 then 3 else if e=2 then 4 else IC Q
def DA(X Y Q e:Int):Int:=if e=1 then X+Y+1 else if e=2 then Y-X else if IC Q=2 then Y+JU Q else X+JU Q
def RL(X Y Q e:Int):Int:=if DQ X Y Q=0/\e<=2 then(if DV (CW Q e) (DA X Y Q e)=0 then 0 else 3)else 1
def b2e:AK
 | [.agg [.int .i64 X,.int .i64 Y,.int .u8 Q],.int .u8 e]=>some (0<=Q/\0<=e,.tup [.agg [.int .u8 (keep (RL X Y Q e) (CW Q e)),.int .i64 (keep (RL X Y Q e) (DA X Y Q e))],.int .i64 (RL X Y Q e)])
 |_=>none
def c2h:Fam:=⟨Int×Int×Int×Int,λ(X,Y,Q,e)=>[.agg [.int .i64 X,.int .i64 Y,.int .u8 Q],.int .u8 e],λ(_,_,Q,e)=>0<=Q/\0<=e,λ(X,Y,Q,e)=>.tup [.agg [.int .u8 (keep (RL X Y Q e) (CW Q e)),.int .i64 (keep (RL X Y Q e) (DA X Y Q e))],.int .i64 (RL X Y Q e)]⟩
theorem d1x:PS 195 b2e:=by
 refine con [(123,Qu),(86,Wx)] (by simpa using⟨Ul,c6t⟩) c2h (λ_ _=>none) b2e ?_ ?_ Tryz.func195 E5 E5 E5 ?_
 .intro args pre s h a;unfold b2e at h;split at h
  .rename_i X Y Q e;cases h;exact⟨(X,Y,Q,e),by simp[c2h,BN,SV.le2,SV.le1,BJ,SV.le0],a,rfl⟩
  .cases h
 .exact C3
 .rintro⟨X,Y,Q,e⟩ a;replace a:0<=Q/\0<=e:=a;refine X0a _ ?_;(repeat' first|constructor|intro h)<;>refine Lm ?_
  all_goals(have c1:=@TF X Y Q;have o:=@lq_le Q a.1)
  all_goals(try simp only[AD])
  all_goals(simp only[IC,JU]at o)
  all_goals grind[RL,CW,DA,keep,IC,JU]
def Re(a b c d e f:Int):Int:=if CT a b=0 then(if CT c d=0 then CT e f else CT c d)else CT a b
def f2w(a b c d e f:Int)(i:Nat):List SV:=[.int .i64 (tb [a,c,e] i),.int .i64 (tb [b,d,f] i)]
def kOrd:AK
 | [.sl 2 3 g _]=>match g 0,g 1,g 2 with
   | [.int .i64 a,.int .i64 b],[.int .i64 c,.int .i64 d],[.int .i64 e,.int .i64 f]=>some (True,.int .i64 (Re a b c d e f))
   |_,_,_=>none
 |_=>none
def FOrd:Fam:=⟨Int×Int×Int×Int×Int×Int,λ(a,b,c,d,e,f)=>[.sl 2 3 (f2w a b c d e f) none],λ_=>True,λ(a,b,c,d,e,f)=>.int .i64 (Re a b c d e f)⟩
def IOrd(a b c d e f:Int):Nat->Option Inv
 |2=>some {β:=Nat,ok:=λi=>i<=3/\∀j,j<i->CT (tb [a,c,e] j) (tb [b,d,f] j)=0,st:=λi=>⟨[⟨8,none,.int .i64 i⟩,⟨7,none,.int .i64 3⟩,⟨6,none,.sl 2 3 (f2w a b c d e f) none⟩,⟨2,none,.int .i64 0⟩],[]⟩,μ:=λi=>3-i}
 |_=>none
theorem pOrd:PS 135 kOrd:=by
 refine con [(115,Ti)] (by simpa using pCmp) FOrd (λ(a,b,c,d,e,f)=>IOrd a b c d e f) kOrd ?_ ?_ Tryz.func135 E5 E5 E5 ?_
 .intro args pre s h hp;unfold kOrd at h;split at h
  .split at h
   .rename_i g cp _ _ _ a b c d e f o r w;cases h;refine⟨(a,b,c,d,e,f),?_,Ji,rfl⟩;simp only[FOrd,BN,SV.le2,SV.le1,SV.le0,HV,and_true,Nx,Kt];refine RX ?_;intro i l;match i,l with
    |0,_=>exact o
    |1,_=>exact r
    |2,_=>exact w
   .cases h
  .cases h
 .exact C4
 .rintro⟨a,b,c,d,e,f⟩-;refine X0a _ ?_;(repeat' first|constructor|intro h)<;>refine Lm ?_
  refine⟨(0:Nat),⟨E4,λj x=>E4⟩,?_,?_⟩
  .refine X0a _ ?_;(repeat' first|constructor|intro h)<;>refine Lm ?_
   all_goals first|exact Aa
  .intro i l;obtain⟨dw,k⟩:=l;refine X0a _ ?_;(repeat' first|constructor|intro h)<;>refine Lm ?_
   all_goals(first
    |decide
    |exact⟨E4,by grind⟩
    |(simp only[AD];grind)
    |(have n:i<3:=by grind
      have q:CT (tb [a,c,e] i) (tb [b,d,f] i)=0:=Ea;refine⟨i+1,⟨E4,λj x=> ?_⟩,E4,?_⟩
      .by_cases e:j=i
       .subst e;exact q
       .exact k j E4)
    |(have n:i<3:=by grind
      have q:¬CT (tb [a,c,e] i) (tb [b,d,f] i)=0:=Ea;have:i=0\/i=1\/i=2:=E4;rcases this with rfl|rfl|rfl
      .simp[tb]at q;simp[Re,q,tb]
      .have:=k 0 E4;simp[tb]at q this;simp[Re,q,tb,this]
      .have:=k 0 E4;have t:=k 1 E4;simp[tb]at q this t;simp[Re,tb,this,t])
    |(have n:i=3:=by grind
      subst n;have u:=k 0 E4;have t:=k 1 E4;have v:=k 2 E4;simp[tb]at u t v;simp[Re,u,t,v])
    |skip)
   all_goals exact X0g
def FY(X Y Q U V R:Int):Int:=Re Y V X U Q R
def Rx:AK
 | [.agg [.int .i64 X,.int .i64 Y,.int .u8 Q],.agg [.int .i64 U,.int .i64 V,.int .u8 R]]=>some (AD .u8 Q/\AD .u8 R,.int .i64 (FY X Y Q U V R))
 |_=>none
def b3q:Fam:=⟨Int×Int×Int×Int×Int×Int,λ(X,Y,Q,U,V,R)=>[.agg [.int .i64 X,.int .i64 Y,.int .u8 Q],.agg [.int .i64 U,.int .i64 V,.int .u8 R]],λ(_,_,Q,_,_,R)=>AD .u8 Q/\AD .u8 R,λ(X,Y,Q,U,V,R)=>.int .i64 (FY X Y Q U V R)⟩
theorem b10:PS 100 Rx:=by
 refine con [(135,kOrd)] (by simpa using pOrd) b3q (λ_ _=>none) Rx ?_ ?_ Tryz.func100 E5 E5 E5 ?_
 .intro args pre s h a;unfold Rx at h;split at h
  .rename_i X Y Q U V R;cases h;exact⟨(X,Y,Q,U,V,R),by simp[b3q,BN,SV.le2,SV.le1,BJ,SV.le0],a,rfl⟩
  .cases h
 .exact C3
 .rintro⟨X,Y,Q,U,V,R⟩ a;replace a:AD .u8 Q/\AD .u8 R:=a;refine X0a _ ?_;(repeat' first|constructor|intro h)<;>refine Lm ?_
  all_goals(first|rfl|(simp only[AD]at*;omega))
def EG(W H i e:Int):Int:=if AW W H i e=0 then min i (AH W H i e)else 0
def FK(W H i e:Int):Int:=if AW W H i e=0 then e else 0
def TB:AK
 | [.agg [.int .i64 W,.int .i64 H],.int .i64 i,.int .u8 e]=>some (0<=e,.tup [.agg [.int .i64 (EG W H i e),.int .u8 (FK W H i e)],.int .i64 (AW W H i e)])
 |_=>none
def FName:Fam:=⟨Int×Int×Int×Int,λ(W,H,i,e)=>[.agg [.int .i64 W,.int .i64 H],.int .i64 i,.int .u8 e],λ(_,_,_,e)=>0<=e,λ(W,H,i,e)=>.tup [.agg [.int .i64 (EG W H i e),.int .u8 (FK W H i e)],.int .i64 (AW W H i e)]⟩
theorem d8v:PS 157 TB:=by
 refine con [(110,Tx)] (by simpa using b1f) FName (λ_ _=>none) TB ?_ ?_ Tryz.func157 E5 E5 E5 ?_
 .intro args pre s h a;unfold TB at h;split at h
  .rename_i W H i e;cases h;exact⟨(W,H,i,e),by simp[FName,BN,SV.le2,SV.le1,BJ,SV.le0],a,rfl⟩
  .cases h
 .exact C5
 .rintro⟨W,H,i,e⟩ a;replace a:0<=e:=a;refine X0a _ ?_;(repeat' first|constructor|intro h)<;>refine Lm ?_
  all_goals(try exact a)
  all_goals(simp at h;simp[EG,FK,h])
def Yo:AK
 | [.agg [.int .i64 a,.int .u8 b,.int .u8 _]]=>some (True,.agg [.int .i64 a,.int .u8 b])
 |_=>none
def FUnit:Fam:=⟨Int×Int×Int,λ(a,b,c)=>[.agg [.int .i64 a,.int .u8 b,.int .u8 c]],λ(_,_,_)=>True,λ(a,b,_)=>.agg [.int .i64 a,.int .u8 b]⟩
theorem pUnit:PS 158 Yo:=by
 refine con [] E6 FUnit (λ_ _=>none) Yo ?_ ?_ Tryz.func158 E5 E5 E5 ?_
 .intro args pre s h d;unfold Yo at h;split at h
  .rename_i a b c;cases h;exact⟨(a,b,c),by simp[FUnit,BN,SV.le2,SV.le1,BJ,SV.le0],d,rfl⟩
  .cases h
 .exact C4
 .rintro⟨a,b,c⟩ d;replace d:True:=d;refine X0a _ ?_;(repeat' first|constructor|intro h)<;>refine Lm ?_
def Io(a b c d:Int):Int:=if a=c then b-d else a-c
def Wg:AK
 | [.agg [.int .i64 a,.int .u8 b],.agg [.int .i64 c,.int .u8 d]]=>some (AD .i64 (a-c)/\AD .u8 b/\AD .u8 d,.int .i64 (Io a b c d))
 |_=>none
def f4g:Fam:=⟨Int×Int×Int×Int,λ(a,b,c,d)=>[.agg [.int .i64 a,.int .u8 b],.agg [.int .i64 c,.int .u8 d]],λ(a,b,c,d)=>AD .i64 (a-c)/\AD .u8 b/\AD .u8 d,λ(a,b,c,d)=>.int .i64 (Io a b c d)⟩
theorem f32:PS 159 Wg:=by
 refine con [] E6 f4g (λ_ _=>none) Wg ?_ ?_ Tryz.func159 E5 E5 E5 ?_
 .intro args pre s h e;unfold Wg at h;split at h
  .rename_i a b c d;cases h;exact⟨(a,b,c,d),by simp[f4g,BN,SV.le2,SV.le1,BJ,SV.le0],e,rfl⟩
  .cases h
 .exact C3
 .rintro⟨a,b,c,d⟩ e;replace e:AD .i64 (a-c)/\AD .u8 b/\AD .u8 d:=e;refine X0a _ ?_;(repeat' first|constructor|intro h)<;>refine Lm ?_
  all_goals(simp at h)
  all_goals(try(simp[Io,h];done))
  all_goals(simp only[AD]at e⊢;omega)
def Qm(k:Int):Bool:=decide (1<=k)&&decide (k<=3)
def b8n:AK
 | [.int .u8 k]=>some (True,.bool (Qm k))
 |_=>none
def d56:Fam:=⟨Int,λk=>[.int .u8 k],λ_=>True,λk=>.bool (Qm k)⟩
theorem f9n:PS 156 b8n:=by
 refine con [] E6 d56 (λ_ _=>none) b8n ?_ ?_ Tryz.func156 E5 E5 E5 ?_
 .intro args pre s h a;unfold b8n at h;split at h
  .rename_i k;cases h;exact⟨k,by simp[d56,BN,SV.le2,SV.le1,SV.le0],a,rfl⟩
  .cases h
 .exact C4
 .intro(k:Int) a;replace a:True:=a;refine X0a _ ?_;(repeat' first|constructor|intro h)<;>refine Lm ?_
  all_goals rfl
def b9m:AK
 | [.agg [.int .i64 _,.int .u8 _,.int .u8 k]]=>some (True,.bool (!Qm k))
 |_=>none
def d20:Fam:=⟨Int×Int×Int,λ(a,b,k)=>[.agg [.int .i64 a,.int .u8 b,.int .u8 k]],λ(_,_,_)=>True,λ(_,_,k)=>.bool (!Qm k)⟩
theorem f88:PS 155 b9m:=by
 refine con [(156,b8n)] (by simpa using f9n) d20 (λ_ _=>none) b9m ?_ ?_ Tryz.func155 E5 E5 E5 ?_
 .intro args pre s h c;unfold b9m at h;split at h
  .rename_i a b k;cases h;exact⟨(a,b,k),by simp[d20,BN,SV.le2,SV.le1,BJ,SV.le0],c,rfl⟩
  .cases h
 .exact C4
 .rintro⟨a,b,k⟩ c;replace c:True:=c;refine X0a _ ?_;(repeat' first|constructor|intro h)<;>refine Lm ?_
def NN(x:Cr):Bool:= !Qm x.k
def Sa(p:Cr->Bool)(l:List Cr):Int:=match l.findIdx? p with
 |some i=>i
 |none=> -1
theorem d9w{p:Cr->Bool}{l:List Cr}{i:Nat}(hi:i<l.length)(h:∀j,j<i->p (l.getD j d0)=false)(a:p (l.getD i d0)=true):Sa p l=i:=by
 have:l.findIdx? p=some i:=by
  rw[L6];refine⟨hi,?_,λj b=> ?_⟩
  .simpa[Jd,hi]using a
  .have:=h j b;have c:j<l.length:=E4;simpa[Jd,c]using this
 simp[Sa,this]
theorem d3k{p:Cr->Bool}{l:List Cr}(h:∀j,j<l.length->p (l.getD j d0)=false):Sa p l= -1:=by
 have:l.findIdx? p=none:=by rw[Ln];intro x hx;obtain⟨j,a,rfl⟩:=K7.1 hx;have:=h j a;simpa[Jd,a]using this
 simp[Sa,this]
theorem d8m(p:Cr->Bool)(l:List Cr):decide (0<=Sa p l)=l.any p:=by
 unfold Sa;cases h:l.findIdx? p with
 |none=>
  have:=Ln.1 h;have:l.any p=false:=by rw[Jy];intro x hx;simpa using this x hx
  rw[this];rfl
 |some i=>
  have:=L6.1 h;obtain⟨a,b,_⟩:=this;have:l.any p=true:=Jz.2 ⟨_,Kd a,b⟩;rw[this];simp
def b1g:AK
 | [x,.clo g []]=>if g=155 then match NT x with
   |some (n,f)=>some (ME n f/\n<=100000,.int .i64 (Sa NN (EK n f)))
   |none=>none
   else none
 |_=>none
def b82:Fam:=⟨List Cr,λl=>[.sl 3 l.length (DZ l) none,.clo 155 []],λl=>l.length<=100000,λl=>.int .i64 (Sa NN l)⟩
def d01(l:List Cr):Nat->Option Inv
 |2=>some {β:=Nat,ok:=λi=>i<=l.length/\∀j,j<i->NN (l.getD j d0)=false,st:=λi=>⟨[⟨8,none,.int .i64 i⟩,⟨7,none,.int .i64 l.length⟩,⟨0,none,.sl 3 l.length (DZ l) none⟩,⟨1,none,.clo 155 []⟩],[]⟩,μ:=λi=>l.length-i}
 |_=>none
theorem c9r:PS 193 b1g:=by
 refine con [(155,b9m)] (by simpa using f88) b82 (λl=>d01 l) b1g ?_ ?_ Tryz.func193 E5 E5 E5 ?_
 .intro args pre s h a;unfold b1g at h;split at h
  .split at h
   .rename_i k;subst k;split at h
    .rename_i n f hx;cases h;exact⟨EK n f,⟨HT (QQ hx a.1),⟨rfl,rfl⟩,Ji⟩,by simp only[b82,RW];exact a.2,rfl⟩
    .cases h
   .cases h
  .cases h
 .exact C3
 .intro(l:List Cr) a;replace a:l.length<=100000:=a;refine X0a _ ?_;(repeat' first|constructor|intro h)<;>refine Lm ?_
  refine⟨(0:Nat),⟨E4,λj g=>E4⟩,?_,?_⟩
  .exact X0d
  .rintro i ⟨dw,d⟩;refine X0a _ ?_;(repeat' first|constructor|intro h)<;>refine Lm ?_
   .simp at h;omega
   .rename_i b;simp at b;exact(d9w b d h).symm
   .simp only[AD];omega
   .rename_i b;simp at b;refine⟨i+1,⟨E4,λj g=> ?_⟩,E4,?_⟩
    .by_cases e:j=i
     .subst e;exact h
     .exact d j E4
    .exact X0g
   .simp at h;exact(d3k (λj g=>d j E4)).symm
def b2u:AK
 | [x,.clo g []]=>if g=155 then match NT x with
   |some (n,f)=>some (ME n f/\n<=100000,.bool ((EK n f).any NN))
   |none=>none
   else none
 |_=>none
def c2q:Fam:=⟨List Cr,λl=>[.sl 3 l.length (DZ l) none,.clo 155 []],λl=>l.length<=100000,λl=>.bool (l.any NN)⟩
theorem d2d:PS 154 b2u:=by
 refine con [(193,b1g)] (by simpa using c9r) c2q (λ_ _=>none) b2u ?_ ?_ Tryz.func154 E5 E5 E5 ?_
 .intro args pre s h a;unfold b2u at h;split at h
  .split at h
   .rename_i b;subst b;split at h
    .rename_i n f hx;cases h;exact⟨EK n f,⟨HT (QQ hx a.1),⟨rfl,rfl⟩,Ji⟩,by simp only[c2q,RW];exact a.2,rfl⟩
    .cases h
   .cases h
  .cases h
 .exact C3
 .intro(l:List Cr) a;replace a:l.length<=100000:=a;refine X0a _ ?_;(repeat' first|constructor|intro h)<;>refine Lm ?_
  .exact⟨EC l,a⟩
  .rw[CR];exact d8m _ _
structure Pt where
 W:Int
 H:Int
 l:List Cr
 deriving DecidableEq
def IH(p:Pt):SV:=.agg [.int .i64 p.W,.int .i64 p.H,.sl 3 p.l.length (DZ p.l) none]
def NR:SV->Option (Prop×Pt)
 |.agg [.int .i64 W,.int .i64 H,x]=>(NT x).map λq=>(ME q.1 q.2/\q.1<=100000,⟨W,H,EK q.1 q.2⟩)
 |_=>none
theorem OA{s:SV}{q:Prop}{p:Pt}(h:NR s=some (q,p))(a:q):s.le2 (IH p)/\p.l.length<=100000:=by
 unfold NR at h;split at h
 .rename_i W H x;rw[Jk]at h;obtain⟨⟨n,f⟩,hx,h⟩:=h;cases h;refine⟨?_,by simp only[RW];exact a.2⟩;simp only[IH,SV.le2,SV.le1,BJ,and_true];exact⟨E9,E9,QQ hx a.1⟩
 .cases h
structure Pa where
 a:Int
 b:Int
 deriving DecidableEq
def Bo:RT Pa:=⟨2,λp=>[.int .i64 p.a,.int .i64 p.b],λl=>match l with
 | [.int _ a,.int _ b]=>⟨a,b⟩
 |_=>⟨0,0⟩,⟨0,0⟩,λ_=>rfl⟩
structure Lo where
 s:Int
 a:Int
 b:Int
 deriving DecidableEq
def BW:RT Lo:=⟨3,λp=>[.int .u8 p.s,.int .i64 p.a,.int .i64 p.b],λl=>match l with
 | [.int _ s,.int _ a,.int _ b]=>⟨s,a,b⟩
 |_=>⟨0,0,0⟩,⟨0,0,0⟩,λ_=>rfl⟩
structure Sm where
 a:Cl
 b:Cl
 ps:List Pa
 ls:List Lo
 en:List Int
 deriving DecidableEq
def BG:Sm:=⟨⟨0,0,0⟩,⟨0,0,0⟩,[],[],[]⟩
def CJ(s:Sm):List Int:=[s.a.x,s.a.y,s.a.q,s.b.x,s.b.y,s.b.q]
def DP(S:List Sm)(q:List Int):Bool:=S.any λs=>decide (CJ s=q)
def DM(S:List Sm)(q:List Int):Nat:=S.findIdx λs=>decide (CJ s=q)
def JW(s:Sm):Mem:=⟨[.int .i64 s.a.x,.int .i64 s.a.y,.int .u8 s.a.q,.int .i64 s.b.x,.int .i64 s.b.y,.int .u8 s.b.q,.osl 0,.osl 1,.osl 2],[(s.ps.length,Bo.row s.ps),(s.ls.length,BW.row s.ls),(s.en.length,AC.row s.en)]⟩
def JZ(S:List Sm)(i:Nat):List SV:=[.int .i64 (S.getD i BG).a.x,.int .i64 (S.getD i BG).a.y,.int .u8 (S.getD i BG).a.q,.int .i64 (S.getD i BG).b.x,.int .i64 (S.getD i BG).b.y,.int .u8 (S.getD i BG).b.q]
theorem d9q(S:List Sm)(s:Sm)(q:List Int):JX (DP S) (CJ s) q=DP (S++[s]) q:=by unfold JX DP;rw[Nt];simp only[List.any_cons,List.any_nil,N3];rw[Bool.or_comm];congr 1;rw[Ly];simp only[Jq];exact⟨λh=>h.symm,λh=>h.symm⟩
theorem d83(S:List Sm)(s:Sm)(q:List Int)(a:DP S (CJ s)=false)(h:DP (S++[s]) q=true):(if q=CJ s then S.length else DM S q)=DM (S++[s]) q:=by
 unfold DM DP at*;rw[List.findIdx_append];by_cases e:q=CJ s
 .subst e;have:S.findIdx (λx=>decide (CJ x=CJ s))=S.length:=by
   rw[List.findIdx_eq_length];intro x hx;have:=Jy.1 a x hx;simpa using this
  rw[Jf rfl,this,Jg (M1 _)];simp[List.findIdx_cons]
 .rw[Jg e];have:S.any (λx=>decide (CJ x=q))=true:=by
   rw[Nt]at h;simpa[Ne.symm e]using h
  have b:S.findIdx (λx=>decide (CJ x=q))<S.length:=by rw[List.findIdx_lt_length];obtain⟨x,hx,c⟩:=Jz.1 this;exact⟨x,hx,c⟩
  rw[Jf b]
theorem OL{S:List Sm}{q:List Int}(h:DP S q=true):DM S q<S.length:=by unfold DM;rw[List.findIdx_lt_length];obtain⟨x,hx,a⟩:=Jz.1 h;exact⟨x,hx,a⟩
def On(x y:Cl):Cl:=if 0<FY x.x x.y x.q y.x y.y y.q then y else x
def Od(x y:Cl):Cl:=if 0<FY x.x x.y x.q y.x y.y y.q then x else y
def JQ(x y:Cl):List Int:=CJ ⟨On x y,Od x y,[],[],[]⟩
def Do(S:List Sm)(x y:Cl):List Sm:=if DP S (JQ x y)=true then S else S++[⟨On x y,Od x y,[],[],[]⟩]
structure Bd where
 p:Pt
 pl:List Mv
 im:List Cl
 ht:List Int
def f9y(b:Bd):Blk:=.cells 188 [.int .i64 b.p.W,.int .i64 b.p.H,.sl 3 b.p.l.length (DZ b.p.l) none,.sl 3 b.pl.length (AE.row b.pl) none,.sl 3 b.im.length (Co.row b.im) none,.osl 1,.omp 2,.osl 3]
def Sx(b:Bd)(S:List Sm):List Blk:=[f9y b,.row 3 1 b.ht.length (AC.row b.ht) none,.pmap (.ints [.i64,.i64,.u8,.i64,.i64,.u8]) 4 (DP S) (DM S),.row 193 6 S.length (JZ S) none,
 .fam 156 [(229,2),(158,3),(3,1)] S.length none (λi=>JW (S.getD i BG))]
def TJ(m:Mem):Sm:=match m with
 |⟨[.int _ a,.int _ b,.int _ c,.int _ d,.int _ e,.int _ f,_,_,_],[g,h,i]⟩=>⟨⟨a,b,c⟩,⟨d,e,f⟩,Bo.lst g.1 g.2,BW.lst h.1 h.2,AC.lst i.1 i.2⟩
 |_=>BG
theorem b4g(s:Sm):TJ (JW s)=s:=by have a:=RT.lst_row Bo s.ps;have b:=RT.lst_row BW s.ls;have c:=RT.lst_row AC s.en;simp only[JW,TJ,a,b,c]
def LB(n:Nat)(F:Nat->Mem):List Sm:=(List.range n).map λi=>TJ (F i)
theorem Wj(S:List Sm):LB S.length (λi=>JW (S.getD i BG))=S:=by
 unfold LB;apply Ma;intro i;by_cases a:i<S.length
 .simp[a,b4g]
 .simp at a;simp[a]
theorem b3i(n:Nat)(F:Nat->Mem):(LB n F).length=n:=by simp[LB]
def asBd:List Blk->Option (Prop×Bd×List Sm)
 | [.cells k [.int .i64 W,.int .i64 H,l,pl,m,.osl k1,.omp k2,.osl k3],.row o p c d _,.pmap K k4 b BP,.row r s e t _,.fam u v a w F]=>
   match NT l,AE.as pl,Co.as m with
   |some (n,f),some (g,f2),some (h,j)=>if(k=188/\k1=1/\k2=2/\k3=3/\o=3/\p=1)/\(K=.ints [.i64,.i64,.u8,.i64,.i64,.u8]/\k4=4/\r=193/\s=6)/\u=156/\v=[(229,2),(158,3),(3,1)]/\w=none then
    some (((ME n f/\n<=100000)/\AE.is g f2/\Co.is h j/\AC.is c d)/\e=a/\(∀i,i<e->t i=JZ (LB a F) i)/\(∀q,b q=DP (LB a F) q)/\(∀q,b q=true->BP q=DM (LB a F) q)/\∀i,i<a->(F i).le (JW (TJ (F i))),
    ⟨⟨W,H,EK n f⟩,AE.lst g f2,Co.lst h j,AC.lst c d⟩,LB a F)
    else none
   |_,_,_=>none
 |_=>none
theorem d1a{own:List Blk}{q:Prop}{b:Bd}{S:List Sm}(h:asBd own=some (q,b,S))(d:q):own.length=5/\SQ 5 own (Sx b S)/\b.p.l.length<=100000:=by
 unfold asBd at h;split at h;rotate_left
 .cases h
 rename_i T1 W H cr pl im k1 k2 k3 T2 z2 e g c1 K k4 has BP T3 z3 a kf c2 T4 Ts fn bt F;split at h;rotate_left
 .cases h
 rename_i n f n2 f2 n3 f3 h1 h2 h3;split at h;rotate_left
 .cases h
 rename_i j;obtain⟨⟨rfl,rfl,rfl,rfl,rfl,rfl⟩,⟨rfl,rfl,rfl,rfl⟩,rfl,rfl,rfl⟩:=j;simp only[Ir]at h;obtain⟨rfl,rfl,rfl⟩:=h;obtain⟨⟨q1,q2,q3,k⟩,rfl,m,o,r,s⟩:=d;refine⟨rfl,⟨⟨?_,?_⟩,⟨?_,?_,?_,?_⟩,⟨?_,o,r⟩,⟨?_,?_,?_,?_⟩,⟨?_,?_,rfl,?_⟩,Ji⟩,Hf⟩
 .exact Cf
 .exact Dp
 .exact Cf
 .exact(RT.lst_length AC e g).symm
 .exact Ji
 .exact RX (AC.row_lst k)
 .rw[Jf ⟨rfl,rfl,E7⟩];trivial
 .exact Cf
 .exact(b3i a F).symm
 .exact Ji
 .exact RX m
 .rw[Jf ⟨rfl,rfl,rfl⟩];trivial
 .exact(b3i a F).symm
 .intro i c;have:(LB a F).getD i BG=TJ (F i):=by simp[LB,c]
  show (F i).le (JW ((LB a F).getD i BG));rw[this];exact s i c
theorem b6r:∀l:List (Nat×(Nat->List SV)),c5j l l
 | []=>trivial
 |_::r=>⟨rfl,λ_ _=>rfl,b6r r⟩
theorem UC(m:Mem):m.le m:=⟨rfl,b6r _⟩
abbrev sN(l h:Cl):Sm:=⟨l,h,[],[],[]⟩
section
variable{S:List Sm}{l h:Cl}
theorem d26:JX (DP S) [l.x,l.y,l.q,h.x,h.y,h.q] [l.x,l.y,l.q,h.x,h.y,h.q]=true:=by simp[JX]
theorem f41:∀q,JX (DP S) [l.x,l.y,l.q,h.x,h.y,h.q] q=DP (S++[sN l h]) q:=d9q S (sN l h)
theorem f2i(a:DP S [l.x,l.y,l.q,h.x,h.y,h.q]=false):∀q,JX (DP S) [l.x,l.y,l.q,h.x,h.y,h.q] q=true->(if q=[l.x,l.y,l.q,h.x,h.y,h.q]then S.length else DM S q)=DM (S++[sN l h]) q:=λq b=>d83 S (sN l h) q a (by rw[<-f41];exact b)
theorem f8z(a:DP S [l.x,l.y,l.q,h.x,h.y,h.q]=false):(if [l.x,l.y,l.q,h.x,h.y,h.q]=[l.x,l.y,l.q,h.x,h.y,h.q]then S.length else DM S [l.x,l.y,l.q,h.x,h.y,h.q])=DM (S++[sN l h]) [l.x,l.y,l.q,h.x,h.y,h.q]:=f2i a _ d26
theorem at_len:S.length+1=(S++[sN l h]).length:=E6
theorem at_row:∀i,i<S.length+1->(if i<S.length then JZ S i else(List.map (λx:Nat×List SV=>x.snd) [(0,[SV.int .i64 l.x,.int .i64 l.y,.int .u8 l.q,.int .i64 h.x,.int .i64 h.y,.int .u8 h.q])].reverse).getD (i-S.length) [])=JZ (S++[sN l h]) i:=by
 intro i hi;by_cases a:i<S.length
 .rw[Jf a];simp[JZ,Jr a]
 .have:i=S.length:=E4;subst this;rw[Jg (M1 _)];simp[JZ]
theorem at_mem:∀i,i<S.length+1->(if i=S.length then⟨lz 0 [SV.int .i64 l.x,.int .i64 l.y,.int .u8 l.q,.int .i64 h.x,.int .i64 h.y,.int .u8 h.q,.con (.slice none 0 0),.con (.slice none 0 0),.con (.slice none 0 0)],List.map (λ_=>(0,λ_=>[])) [(229,2),(158,3),(3,1)]⟩else JW (S.getD i BG):Mem).le (JW ((S++[sN l h]).getD i BG)):=by
 intro i a;by_cases b:i=S.length
 .subst b;rw[Jf rfl];have:(S++[sN l h]).getD S.length BG=sN l h:=by simp[]
  rw[this];exact⟨rfl,rfl,λ_ a=>absurd a (K3 _),rfl,λ_ a=>absurd a (K3 _),rfl,λ_ a=>absurd a (K3 _),Ji⟩
 .rw[Jg b];have:(S++[sN l h]).getD i BG=S.getD i BG:=by simp[Jr (show i<S.length from E4)]
  rw[this];exact UC _
end
def clSV(c:Cl):SV:=.agg [.int .i64 c.x,.int .i64 c.y,.int .u8 c.q]
def hBAt:HK:=λg own=>match g with
 | [.own 0 0,.agg [.int .i64 a,.int .i64 b,.int .u8 c],.agg [.int .i64 d,.int .i64 e,.int .u8 f]]=>(asBd own).map λq=>⟨q.1/\(AD .u8 c/\AD .u8 f)/\q.2.2.length<=1000000,.fp true 4 (DM (Do q.2.2 ⟨a,b,c⟩ ⟨d,e,f⟩) (JQ ⟨a,b,c⟩ ⟨d,e,f⟩)) 0,Sx q.2.1 (Do q.2.2 ⟨a,b,c⟩ ⟨d,e,f⟩),[3,4]⟩
 |_=>none
def FBAt:FamH:=⟨(Bd×List Sm)×Cl×Cl,λ(_,x,y)=>[.own 0 0,clSV x,clSV y],λ((b,S),_,_)=>Sx b S,λ((b,S),x,y)=>(b.p.l.length<=100000)/\(AD .u8 x.q/\AD .u8 y.q)/\S.length<=1000000,λ((_,S),x,y)=>.fp true 4 (DM (Do S x y) (JQ x y)) 0,λ((b,S),x,y)=>Sx b (Do S x y),[3,4]⟩
theorem pBAt:HS 136 hBAt:=by
 refine HX {l:=[(100,Rx)]} ⟨Hg,E6,E6⟩ FBAt (λ_ _=>none) hBAt ?_ ?_ ?_ Tryz.func136 E5 E5 E5 ?_
 .intro args own r h g;unfold hBAt at h;split at h
  .rename_i a b c d e f;simp only[Jk]at h;obtain⟨⟨q,n,S⟩,hx,rfl⟩:=h;obtain⟨o,s,t⟩:=d1a hx g.1;exact⟨((n,S),⟨a,b,c⟩,⟨d,e,f⟩),⟨Ec,by simp[clSV,SV.le2,SV.le1,BJ,SV.le0],by simp[clSV,SV.le2,SV.le1,BJ,SV.le0],Ji⟩,o,s,⟨t,g.2⟩,rfl,rfl,rfl⟩
  .cases h
 .exact C5
 .intro i;show 5<=5;decide
 .rintro⟨⟨b,S⟩,x,y⟩ μ g;replace g:(b.p.l.length<=100000)/\(AD .u8 x.q/\AD .u8 y.q)/\S.length<=1000000:=g;have cT:decide (0<FY x.x x.y x.q y.x y.y y.q)=true->JQ x y=[y.x,y.y,y.q,x.x,x.y,x.q]/\(DP S [y.x,y.y,y.q,x.x,x.y,x.q]=false->Do S x y=S++[sN y x])/\(DP S [y.x,y.y,y.q,x.x,x.y,x.q]=true->Do S x y=S):=by
   intro k;have g9:=Kq k;have e:JQ x y=[y.x,y.y,y.q,x.x,x.y,x.q]:=by simp[JQ,CJ,On,Od,g9]
   exact Dq
  have u:decide (0<FY x.x x.y x.q y.x y.y y.q)=false->JQ x y=[x.x,x.y,x.q,y.x,y.y,y.q]/\(DP S [x.x,x.y,x.q,y.x,y.y,y.q]=false->Do S x y=S++[sN x y])/\(DP S [x.x,x.y,x.q,y.x,y.y,y.q]=true->Do S x y=S):=by
   intro k;have g9:=M4 k;have e:JQ x y=[x.x,x.y,x.q,y.x,y.y,y.q]:=by simp[JQ,CJ,On,Od,g9]
   exact Dq
  refine X0a _ ?_;(repeat' first|constructor|intro h)<;>refine Lm ?_
  all_goals(first
   |exact g.2.1
   |exact Be
   |exact⟨E4,MK E5 E4⟩
   |(obtain⟨e1,m,j⟩:=cT E8
     first
      |(have hk:DP S [y.x,y.y,y.q,x.x,x.y,x.q]=false:=by simpa using h
        first
         |exact d26
         |(rw[m hk]
           first
            |exact Bj))
      |(have hk:DP S [y.x,y.y,y.q,x.x,x.y,x.q]=true:=by simpa using h
        first
         |exact hk
         |exact Md List.length (j hk).symm
         |(rw[j hk]
           first
            |exact Bu
            |exact Be
            |rfl
            |exact Bh
            |(rw[e1];exact λ_=>rfl))))
   |(obtain⟨e1,m,j⟩:=u E8
     first
      |(have hk:DP S [x.x,x.y,x.q,y.x,y.y,y.q]=false:=by simpa using h
        first
         |exact d26
         |(rw[m hk]
           first
            |exact Bj))
      |(have hk:DP S [x.x,x.y,x.q,y.x,y.y,y.q]=true:=by simpa using h
        first
         |exact hk
         |exact Md List.length (j hk).symm
         |(rw[j hk]
           first
            |exact Bu
            |exact Be
            |rfl
            |exact Bh
            |(rw[e1];exact λ_=>rfl))))
   |skip)
def sX(Q:Int):Int:=tb [0,1,0,-1] Q.toNat
def sY(Q:Int):Int:=tb [-1,0,1,0] Q.toNat
def dX(t Q:Int):Int:=OB t 0 0 (sX Q) (sY Q)
def dY(t Q:Int):Int:=NX t 0 0 (sX Q) (sY Q)
def MS(t Q:Int)(i:Nat):Bool:=and (decide (tb [0,1,0,-1] i=dX t Q)) (and (decide (tb [-1,0,1,0] i=dY t Q)) true)
def Rd(t Q:Int):Nat->Int
 |0=>0
 |i+1=>bif MS t Q i then i else Rd t Q i
def KS(t Q:Int):Int:=Rd t Q 4
def Qk(p:Int):Int:=(p-p%2).tdiv 2
def LI(t x y X Y:Int):Int:=Qk (OB t x y (2*X+1) (2*Y+1))
def LV(t x y X Y:Int):Int:=Qk (NX t x y (2*X+1) (2*Y+1))
theorem po_le{t x y a b:Int}(c:0<=t)(h:CB t x y=0)(a1: -9000<=a)(a2:a<=9000)(b1: -9000<=b)(b2:b<=9000): -60000<=OB t x y a b/\OB t x y a b<=60000/\ -60000<=NX t x y a b/\NX t x y a b<=60000:=by have m:=Pz h;have r:=c4n (t:=t) (x:=a) (y:=b) (B:=9000) c m.1 E4 E4 E4 E4;unfold OB NX keep;split<;>omega
theorem d5i{p:Int}(h1: -60000<=p)(h2:p<=60000): -60000<=Qk p/\Qk p<=60000:=by unfold Qk;have:=Int.tdiv_eq_ediv (a:=p-p%2) (b:=2);rw[this];split<;>omega
def c4h:SV:=.agg (WN 0++WN 1++WN 2++WN 3)
def IMoved:Int×Int×Int×Int×Int×Int->Nat->Option Inv
 |(t,x,y,X,Y,Q),7=>some {β:=Nat,ok:=λi=>i<=4,st:=λi=>⟨[⟨47,none,.int .i64 i⟩,⟨46,none,c4h⟩,⟨7,none,.own 5 0⟩,⟨6,none,.own 4 0⟩,⟨4,none,.own 2 0⟩],[.cells 31 [.int .u8 t,.int .i64 0,.int .i64 0],.cells 39 [.int .i64 X,.int .i64 Y,.int .u8 Q],.cells 39 [.int .i64 0,.int .i64 0,.int .u8 0],.cells 258 [.int .i64 (OB t x y (2*X+1) (2*Y+1)),.int .i64 (NX t x y (2*X+1) (2*Y+1))],.cells 258 [.int .i64 (dX t Q),.int .i64 (dY t Q)],.cells 39 [.int .i64 (LI t x y X Y),.int .i64 (LV t x y X Y),.int .u8 (Rd t Q i)]]⟩,μ:=λi=>4-i}
 |_,_=>none
def c7n:AK
 | [.agg [.int .u8 t,.int .i64 x,.int .i64 y],.agg [.int .i64 X,.int .i64 Y,.int .u8 Q]]=>some (CB t x y=0/\DQ X Y Q=0/\0<=t/\0<=Q,.agg [.int .i64 (LI t x y X Y),.int .i64 (LV t x y X Y),.int .u8 (KS t Q)])
 |_=>none
def f4t:Fam:=⟨Int×Int×Int×Int×Int×Int,λ(t,x,y,X,Y,Q)=>[.agg [.int .u8 t,.int .i64 x,.int .i64 y],.agg [.int .i64 X,.int .i64 Y,.int .u8 Q]],λ(t,x,y,X,Y,Q)=>CB t x y=0/\DQ X Y Q=0/\0<=t/\0<=Q,λ(t,x,y,X,Y,Q)=>.agg [.int .i64 (LI t x y X Y),.int .i64 (LV t x y X Y),.int .u8 (KS t Q)]⟩
theorem pMoved:PS 165 c7n:=by
 refine con [(196,c0u),(197,b4j)] (by simpa using⟨g0y,d9u⟩) f4t IMoved c7n ?_ ?_ Tryz.func165 E5 E5 E5 ?_
 .intro args pre s h d;unfold c7n at h;split at h
  .rename_i t x y X Y Q;cases h;exact⟨(t,x,y,X,Y,Q),by simp[f4t,BN,SV.le2,SV.le1,BJ,SV.le0],d,rfl⟩
  .cases h
 .exact C3
 .rintro⟨t,x,y,X,Y,Q⟩ d;replace d:CB t x y=0/\DQ X Y Q=0/\0<=t/\0<=Q:=d;refine X0a _ ?_;(repeat' first|constructor|intro h)<;>refine Lm ?_
  all_goals(have m:=Pz d.1;have c:=TF d.2.1;have r:=po_le d.2.2.1 d.1 (a:=2*X+1) (b:=2*Y+1) E4 E4 E4 E4)
  all_goals(first
   |exact As
   |(have q:=d5i r.1 r.2.1;simp only[Qk]at q;simp only[AD];omega)
   |(have q:=d5i r.2.2.1 r.2.2.2;simp only[Qk]at q;simp only[AD];omega)
   |refine⟨(0:Nat),E7,?_,?_⟩)
  .exact X0d
  .intro i f;replace f:i<=4:=f;have:i=0\/i=1\/i=2\/i=3\/i=4:=E4;rcases this with rfl|rfl|rfl|rfl|rfl;all_goals refine X0a _ ?_;(repeat' first|constructor|intro h)<;>refine Lm ?_
   all_goals(first
    |decide
    |rfl
    |exact A9
    |(refine⟨(1:Nat),E7,E7,?_⟩;(first|(have h:MS t Q 0=true:=h)|(have h:MS t Q 0=false:=h)))
    |(refine⟨(2:Nat),E7,E7,?_⟩;(first|(have h:MS t Q 1=true:=h)|(have h:MS t Q 1=false:=h)))
    |(refine⟨(3:Nat),E7,E7,?_⟩;(first|(have h:MS t Q 2=true:=h)|(have h:MS t Q 2=false:=h)))
    |(refine⟨(4:Nat),E7,E7,?_⟩;(first|(have h:MS t Q 3=true:=h)|(have h:MS t Q 3=false:=h))))
   all_goals refine X0a _ ?_;(repeat' first|constructor|intro h)<;>refine Lm ?_
   all_goals first|exact B5|(simp only[Rd,h,Nf,cond_false];done)|(simp only[Rd];rw[h];rfl)|skip
theorem d1z(t Q:Int):∀n:Nat,0<=Rd t Q n/\Rd t Q n<=n
 |0=>⟨M3 _,M3 _⟩
 |n+1=>by have:=d1z t Q n;simp only[Rd];cases MS t Q n<;>simp<;>omega
def GG(t x y X Y Q:Int):Int:=if CB t x y=0/\DQ X Y Q=0 then(if DQ (LI t x y X Y) (LV t x y X Y) (KS t Q)=0 then 0 else 3)else 1
def VG:AK
 | [.agg [.int .u8 t,.int .i64 x,.int .i64 y],.agg [.int .i64 X,.int .i64 Y,.int .u8 Q]]=>some (0<=t/\t<=255/\0<=Q,.tup [.agg [.int .i64 (keep (GG t x y X Y Q) (LI t x y X Y)),.int .i64 (keep (GG t x y X Y Q) (LV t x y X Y)),.int .u8 (keep (GG t x y X Y Q) (KS t Q))],.int .i64 (GG t x y X Y Q)])
 |_=>none
def c17:Fam:=⟨Int×Int×Int×Int×Int×Int,λ(t,x,y,X,Y,Q)=>[.agg [.int .u8 t,.int .i64 x,.int .i64 y],.agg [.int .i64 X,.int .i64 Y,.int .u8 Q]],λ(t,_,_,_,_,Q)=>0<=t/\t<=255/\0<=Q,λ(t,x,y,X,Y,Q)=>.tup [.agg [.int .i64 (keep (GG t x y X Y Q) (LI t x y X Y)),.int .i64 (keep (GG t x y X Y Q) (LV t x y X Y)),.int .u8 (keep (GG t x y X Y Q) (KS t Q))],.int .i64 (GG t x y X Y Q)]⟩
theorem b56:PS 119 VG:=by
 refine con [(17,OI),(123,Qu),(165,c7n)] (by simpa using⟨QO,Ul,pMoved⟩) c17 (λ_ _=>none) VG ?_ ?_ Tryz.func119 E5 E5 E5 ?_
 .intro args pre s h a;unfold VG at h;split at h
  .rename_i t x y X Y Q;cases h;exact⟨(t,x,y,X,Y,Q),by simp[c17,BN,SV.le2,SV.le1,BJ,SV.le0],a,rfl⟩
  .cases h
 .exact C3
 .rintro⟨t,x,y,X,Y,Q⟩ a;replace a:0<=t/\t<=255/\0<=Q:=a;refine X0a _ ?_;(repeat' first|constructor|intro h)<;>refine Lm ?_
  all_goals(first|grind|grind[GG,keep])
def EP(W H:Int):Int:=if AO W H=0 then 4*W*H else 0
def VQ:AK
 | [.agg [.int .i64 W,.int .i64 H]]=>some (True,.int .i64 (EP W H))
 |_=>none
def f4q:Fam:=⟨Int×Int,λ(W,H)=>[.agg [.int .i64 W,.int .i64 H]],λ(_,_)=>True,λ(W,H)=>.int .i64 (EP W H)⟩
theorem d2y:PS 103 VQ:=by
 refine con [(96,QC)] (by simpa using Td) f4q (λ_ _=>none) VQ ?_ ?_ Tryz.func103 E5 E5 E5 ?_
 .intro args pre s h a;unfold VQ at h;split at h
  .rename_i W H;cases h;exact⟨(W,H),by simp[f4q,BN,SV.le2,SV.le1,BJ,SV.le0],a,rfl⟩
  .cases h
 .exact C4
 .rintro⟨W,H⟩ a;replace a:True:=a;refine X0a _ ?_;(repeat' first|constructor|intro h)<;>refine Lm ?_
  all_goals(have z:=@QZ W H)
  all_goals(try simp only[AD])
  all_goals grind[EP]
def Pn(W H i e:Int):Int:=if AO W H=0 then(if AW W H i e=0/\EG W H i e=i/\FK W H i e=e then 0 else 7)else 1
def NG(W H i e v:Int):Int:=if Pn W H i e=0 then v else 0
theorem b3f{W H i e:Int}(h:AW W H i e=0):KU W H i=0:=by
 unfold AW at h;split at h
 .assumption
 .exact h
theorem b85{W H i:Int}(h:KU W H i=0):AO W H=0/\0<=i/\i<4*(W*H):=by
 unfold KU at h;split at h
 .rename_i a;have z:=QZ a;split at h
  .rename_i b;simp[SY]at b;exact⟨a,b.1,E4⟩
  .cases h
 .cases h
def c5v:AK
 | [.agg [.int .i64 W,.int .i64 H],.agg [.int .i64 i,.int .u8 e]]=>some (0<=e,.tup [.agg [.int .i64 (NG W H i e (i/4%W)),.int .i64 (NG W H i e (i/4/W)),.int .u8 (NG W H i e (i%4))],.int .i64 (Pn W H i e)])
 |_=>none
def f3y:Fam:=⟨Int×Int×Int×Int,λ(W,H,i,e)=>[.agg [.int .i64 W,.int .i64 H],.agg [.int .i64 i,.int .u8 e]],λ(_,_,_,e)=>0<=e,λ(W,H,i,e)=>.tup [.agg [.int .i64 (NG W H i e (i/4%W)),.int .i64 (NG W H i e (i/4/W)),.int .u8 (NG W H i e (i%4))],.int .i64 (Pn W H i e)]⟩
theorem pNamed:PS 194 c5v:=by
 refine con [(96,QC),(157,TB),(164,YQ)] (by simpa using⟨Td,d8v,pCell⟩) f3y (λ_ _=>none) c5v ?_ ?_ Tryz.func194 E5 E5 E5 ?_
 .intro args pre s h a;unfold c5v at h;split at h
  .rename_i W H i e;cases h;exact⟨(W,H,i,e),by simp[f3y,BN,SV.le2,SV.le1,BJ,SV.le0],a,rfl⟩
  .cases h
 .exact C3
 .rintro⟨W,H,i,e⟩ a;replace a:0<=e:=a;refine X0a _ ?_;(repeat' first|constructor|intro h)<;>refine Lm ?_
  all_goals(have z:=@QZ W H;have z2:=@b3f W H i e;have z3:=@b85 W H i;have z4:=b4b W H)
  all_goals(first|grind|grind[Pn,NG])
theorem f5q{q:Cr->Bool}{l:List Cr}{i:Nat}(hi:i<l.length)(h:q (l.getD i d0)=true):l.any q=true:=by refine Jz.2 ⟨l[i],Kd hi,?_⟩;simpa[Jd,hi]using h
theorem d7p{q:Cr->Bool}{l:List Cr}(h:∀j,j<l.length->q (l.getD j d0)=false):l.any q=false:=by rw[Jy];intro x hx;obtain⟨j,a,rfl⟩:=K7.1 hx;have:=h j a;simpa[Jd,a]using this
theorem d0j{q:Cr->Bool}{l:List Cr}{i:Nat}(hi:i<l.length)(h:l.any q=false):q (l.getD i d0)=false:=by rw[Jy]at h;have:=h l[i] (Kd hi);simpa[Jd,hi]using this
theorem b4i{l:List Cr}{i:Nat}(hi:i<l.length):l.getD i d0∈l:=by simp[hi]
theorem b1c{W H i e:Int}(h:AO W H=0)(b:AW W H i e=0):0<=i/\i<1024:=by
 have a:KU W H i=0:=by
  unfold AW at b;split at b
  .assumption
  .exact b
 unfold KU at a;rw[Jf h]at a;split at a
 .rename_i c;obtain⟨h1,h2,h3,h4,h5,h6,h7⟩:=QZ h;simp[SY]at c;omega
 .cases a
def QB(p:Pt)(x:Cr):Bool:= !decide (AW p.W p.H x.c x.e=0)|| !(decide (EG p.W p.H x.c x.e=x.c)&&(decide (FK p.W p.H x.c x.e=x.e)&&true))
def PG(p:Pt)(i:Nat):Bool:=decide (0<=Io (p.l.getD i d0).c (p.l.getD i d0).e (p.l.getD (i+1) d0).c (p.l.getD (i+1) d0).e)
def BO(p:Pt):Int:=if AO p.W p.H=0 then(if p.l.any NN then 1 else if p.l.any (QB p)then 7 else if(List.range (p.l.length-1)).any (PG p)then 6 else 0)else 1
def YS:AK
 | [x]=>match NR x with
   |some (a,p)=>some (a/\∀c∈p.l,AD .u8 c.e,.int .i64 (BO p))
   |none=>none
 |_=>none
def f7i:Fam:=⟨Pt,λp=>[IH p],λp=>p.l.length<=100000/\∀c∈p.l,AD .u8 c.e,λp=>.int .i64 (BO p)⟩
def f7u(p:Pt):Nat->Option Inv
 |7=>some {β:=Nat,ok:=λi=>i<=p.l.length/\AO p.W p.H=0/\p.l.any NN=false/\∀j,j<i->QB p (p.l.getD j d0)=false,st:=λi=>⟨[⟨21,none,.int .i64 i⟩,⟨20,none,.int .i64 p.l.length⟩,⟨19,none,.sl 3 p.l.length (DZ p.l) none⟩,⟨1,none,.own 0 0⟩],[.cells 29 [.int .i64 p.W,.int .i64 p.H,.sl 3 p.l.length (DZ p.l) none]]⟩,μ:=λi=>p.l.length-i}
 |14=>some {β:=Nat,ok:=λi=>1<=i/\(i=1\/i<=p.l.length)/\AO p.W p.H=0/\p.l.any NN=false/\p.l.any (QB p)=false/\∀j,j+1<i->PG p j=false,st:=λi=>⟨[⟨8,none,.int .i64 i⟩,⟨1,none,.own 0 0⟩],[.cells 29 [.int .i64 p.W,.int .i64 p.H,.sl 3 p.l.length (DZ p.l) none]]⟩,μ:=λi=>p.l.length+1-i}
 |_=>none
theorem d35:PS 116 YS:=by
 refine con [(96,QC),(154,b2u),(157,TB),(158,Yo),(159,Wg)] (by simpa using⟨Td,d2d,d8v,pUnit,f32⟩) f7i (λp=>f7u p) YS ?_ ?_ Tryz.func116 E5 E5 E5 ?_
 .intro args pre s h hp;unfold YS at h;split at h
  .split at h
   .rename_i a p hx;cases h;exact D4
   .cases h
  .cases h
 .exact C4
 .rintro(p:Pt) hp;replace hp:p.l.length<=100000/\∀c∈p.l,AD .u8 c.e:=hp;refine X0a _ ?_;(repeat' first|constructor|intro h)<;>refine Lm ?_
  .simp at h;rw[BO,Jg h];exact(b4b p.W p.H).resolve_left h
  .exact⟨EC _,hp.1⟩
  .rename_i n;simp at n;rw[CR]at h;rw[BO,Jf n,Jf h]
  .rename_i n;simp at n;rw[CR]at h;refine⟨(0:Nat),⟨E4,n,h,λj hj=>E4⟩,?_,?_⟩
   .exact X0d
   .rintro i ⟨dw,b,g,r⟩;refine X0a _ ?_;(repeat' first|constructor|intro h)<;>refine Lm ?_
    .simp at h;omega
    .simp at h;have:=hp.2 _ (b4i (i:=i) h);simp only[AD]at this;exact this.1
    .rename_i d;simp at d;have e:QB p (p.l.getD i d0)=true:=h;rw[BO,Jf b,Jg (by simp[g]),Jf (f5q d e)]
    .simp only[AD];omega
    .rename_i d;simp at d;refine⟨i+1,⟨E4,b,g,λj hj=> ?_⟩,E4,?_⟩
     .by_cases e:j=i
      .subst e;exact h
      .exact r j E4
     .exact X0g
    .simp at h;have m:p.l.any (QB p)=false:=d7p (λj hj=>r j E4);refine⟨(1:Nat),⟨E4,.inl rfl,b,g,m,λj hj=>E4⟩,?_,?_⟩
     .exact X0d
     .rintro k ⟨k1,k2,-,-,-,k3⟩;refine X0a _ ?_;(repeat' first|constructor|intro h)<;>refine Lm ?_
      all_goals(try(simp only[AD];omega))
      all_goals(try(simp at h;omega))
      .simp at h;have o:((k:Int)-1).toNat=k-1:=E4;rw[o,Jv];have t:=d0j (i:=k-1) E4 m;have u:=d0j (i:=k) E4 m;simp only[QB,Lz,Bool.not_eq_false',Jq]at t u;have c1:=b1c b t.1;have c2:=b1c b u.1;refine⟨Fd,hp.2 _ (b4i E4),hp.2 _ (b4i E4)⟩
      all_goals(have o:((k:Int)-1).toNat=k-1:=E4)
      all_goals(have v:k-1+1=k:=E4)
      .rename_i d;simp at d;simp only[o,Jv]at h;have q:PG p (k-1)=true:=by simp only[PG,v];exact h
       have:(List.range (p.l.length-1)).any (PG p)=true:=Jz.2 ⟨k-1,Ki.2 E4,q⟩;rw[BO,Jf b,Jg (by simp[g]),Jg (by simp[m]),Jf this]
      .rename_i d;simp at d;simp only[o,Jv]at h;have q:PG p (k-1)=false:=by simp only[PG,v];exact h
       refine⟨k+1,⟨E4,E4,b,g,m,λj hj=> ?_⟩,E4,?_⟩
       .by_cases e:j=k-1
        .subst e;exact q
        .exact k3 j E4
       .exact X0g
      .simp at h;have:(List.range (p.l.length-1)).any (PG p)=false:=by
        rw[Jy];intro j hj;have:=k3 j Hh;simp[this]
       rw[BO,Jf b,Jg (by simp[g]),Jg (by simp[m]),Jg (by simp[this])]
def Tp(W H i e:Int):Int:=if Pn W H i e=0 then RL (NG W H i e (i/4%W)) (NG W H i e (i/4/W)) (NG W H i e (i%4)) e else Pn W H i e
def Tw(W H i e:Int):Int:=if Pn W H i e=0 then keep (Tp W H i e) (CW (i%4) e)else 0
def UZ(W H i e:Int):Int:=if Pn W H i e=0 then keep (Tp W H i e) (DA (i/4%W) (i/4/W) (i%4) e)else 0
def b1q:AK
 | [.agg [.int .i64 W,.int .i64 H],.agg [.int .i64 i,.int .u8 e]]=>some (0<=e,.tup [.agg [.int .u8 (Tw W H i e),.int .i64 (UZ W H i e)],.int .i64 (Tp W H i e)])
 |_=>none
def b7k:Fam:=⟨Int×Int×Int×Int,λ(W,H,i,e)=>[.agg [.int .i64 W,.int .i64 H],.agg [.int .i64 i,.int .u8 e]],λ(_,_,_,e)=>0<=e,λ(W,H,i,e)=>.tup [.agg [.int .u8 (Tw W H i e),.int .i64 (UZ W H i e)],.int .i64 (Tp W H i e)]⟩
theorem d0g:PS 162 b1q:=by
 refine con [(194,c5v),(195,b2e)] (by simpa using⟨pNamed,d1x⟩) b7k (λ_ _=>none) b1q ?_ ?_ Tryz.func162 E5 E5 E5 ?_
 .intro args pre s h a;unfold b1q at h;split at h
  .rename_i W H i e;cases h;exact⟨(W,H,i,e),by simp[b7k,BN,SV.le2,SV.le1,BJ,SV.le0],a,rfl⟩
  .cases h
 .exact C3
 .rintro⟨W,H,i,e⟩ a;replace a:0<=e:=a;refine X0a _ ?_;(repeat' first|constructor|intro h)<;>refine Lm ?_
  all_goals(have z:0<=NG W H i e (i%4):=by(unfold NG;split<;>omega))
  all_goals(first|grind|grind[Tp,Tw,UZ,NG,keep])
def c8g:AK
 | [.agg [.int .i64 a,.int .u8 b,.int .u8 _],.agg [.int .i64 c,.int .u8 d]]=>some (AD .i64 (a-c)/\AD .u8 b/\AD .u8 d,.int .i64 (Io a b c d))
 |_=>none
def f2s:Fam:=⟨Int×Int×Int×Int×Int,λ(a,b,k,c,d)=>[.agg [.int .i64 a,.int .u8 b,.int .u8 k],.agg [.int .i64 c,.int .u8 d]],λ(a,b,_,c,d)=>AD .i64 (a-c)/\AD .u8 b/\AD .u8 d,λ(a,b,_,c,d)=>.int .i64 (Io a b c d)⟩
theorem pFind1:PS 237 c8g:=by
 refine con [(158,Yo),(159,Wg)] (by simpa using⟨pUnit,f32⟩) f2s (λ_ _=>none) c8g ?_ ?_ Tryz.func237 E5 E5 E5 ?_
 .intro args pre s h e;unfold c8g at h;split at h
  .rename_i a b k c d;cases h;exact⟨(a,b,k,c,d),by simp[f2s,BN,SV.le2,SV.le1,BJ,SV.le0],e,rfl⟩
  .cases h
 .exact C3
 .rintro⟨a,b,k,c,d⟩ e;replace e:AD .i64 (a-c)/\AD .u8 b/\AD .u8 d:=e;refine X0a _ ?_;(repeat' first|constructor|intro h)<;>refine Lm ?_
  all_goals(first|exact e|rfl)
def KX(x:Cr)(a b:Int):Int:=Io x.c x.e a b
def IU(l:List Cr)(a b:Int):Nat:=(l.takeWhile λx=>decide (KX x a b<0)).length
def LL(l:List Cr)(a b:Int):Bool:=and (decide ((IU l a b:Int)<l.length)) (decide (KX (l.getD (IU l a b) d0) a b=0))
theorem c84{a b:Int}:∀(l:List Cr) (i:Nat),i<=l.length->(∀k,k<i->KX (l.getD k d0) a b<0)->(i<l.length->0<=KX (l.getD i d0) a b)->IU l a b=i
 | [],i,h,_,_=>by simp at h;simp[IU,h]
 |x::l,0,_,_,h=>by have:=h E6;simp at this;have:¬KX x a b<0:=E4;simp[IU,this]
 |x::l,i+1,h,c,f=>by have:=c 0 E4;simp at this;have d:=c84 l i Ea (λk e=>by simpa using c (k+1) E4) (λe=>by simpa using f (by simpa using e));simp only[IU]at d⊢;simp[this,d]
def Sb(l:List Cr):Prop:=∀i j,i<j->j<l.length->Io (l.getD i d0).c (l.getD i d0).e (l.getD j d0).c (l.getD j d0).e<0
def Ss(l:List Cr):Prop:=∀x∈l,0<=x.c/\x.c<=2000/\AD .u8 x.e
def kBs:AK
 | [x,.agg [.int .i64 a,.int .u8 b],.clo g []]=>if g=237 then match NT x with
   |some (n,f)=>some ((ME n f/\n<=100000)/\Sb (EK n f)/\Ss (EK n f)/\0<=a/\a<=2000/\AD .u8 b,.tup [.int .i64 (IU (EK n f) a b),.bool (LL (EK n f) a b)])
   |none=>none
   else none
 |_=>none
def FBs:Fam:=⟨List Cr×Int×Int,λ(l,a,b)=>[.sl 3 l.length (DZ l) none,.agg [.int .i64 a,.int .u8 b],.clo 237 []],λ(l,a,b)=>l.length<=100000/\Sb l/\Ss l/\0<=a/\a<=2000/\AD .u8 b,λ(l,a,b)=>.tup [.int .i64 (IU l a b),.bool (LL l a b)]⟩
def IBs:List Cr×Int×Int->Nat->Option Inv
 |(l,a,b),3=>some {β:=Nat×Nat,ok:=λ(i,j)=>i<=j/\j<=l.length/\(∀k,k<i->KX (l.getD k d0) a b<0)/\∀k,j<=k->k<l.length->0<=KX (l.getD k d0) a b,st:=λ(i,j)=>⟨[⟨10,none,.int .i64 j⟩,⟨9,none,.int .i64 i⟩,⟨8,none,.int .i64 l.length⟩,⟨7,none,.bool false⟩,⟨6,none,.int .i64 0⟩,⟨4,none,.own 0 0⟩,⟨2,none,.clo 237 []⟩,⟨0,none,.sl 3 l.length (DZ l) none⟩],[.cells 100 [.int .i64 a,.int .u8 b]]⟩,μ:=λ(i,j)=>j-i}
 |_,_=>none
theorem pBs:PS 236 kBs:=by
 refine con [(237,c8g)] (by simpa using pFind1) FBs IBs kBs ?_ ?_ Tryz.func236 E5 E5 E5 ?_
 .intro args pre s h d;unfold kBs at h;split at h
  .split at h
   .rename_i z;subst z;split at h
    .rename_i n f hx;rename_i a b _;cases h;exact⟨(EK n f,a,b),⟨HT (QQ hx d.1.1),Ej,⟨rfl,rfl⟩,Ji⟩,⟨by simp only[RW];exact d.1.2,d.2⟩,rfl⟩
    .cases h
   .cases h
  .cases h
 .exact C5
 .rintro⟨l,a,b⟩ d;replace d:l.length<=100000/\Sb l/\Ss l/\0<=a/\a<=2000/\AD .u8 b:=d;refine X0a _ ?_;(repeat' first|constructor|intro h)<;>refine Lm ?_
  refine⟨((0:Nat),l.length),⟨E4,E4,λk m=>E4,λk v o=>E4⟩,?_,?_⟩
  .exact X0d
  .rintro⟨i,j⟩ ⟨v,o,r,t⟩;replace v:i<=j:=v;replace o:j<=l.length:=o;replace r:∀k,k<i->KX (l.getD k d0) a b<0:=r;replace t:∀k,j<=k->k<l.length->0<=KX (l.getD k d0) a b:=t;have g:((i:Int)+j)/2^Int.toNat 1=(((i+j)/2:Nat):Int):=by
    have:(2:Int)^Int.toNat 1=2:=rfl;rw[this];omega
   have w:∀k,k<l.length->AD .i64 ((l.getD k d0).c-a)/\AD .u8 (l.getD k d0).e/\AD .u8 b:=λk m=>by have q:=d.2.2.1 _ (b4i m);exact⟨Fd,q.2.2,d.2.2.2.2.2⟩
   refine X0a _ ?_;(repeat' first|constructor|intro h)<;>refine Lm ?_
   all_goals(first
    |(have x:i<j:=by simpa using(by assumption:decide ((i:Int)<(j:Int))=true)
      first
      |exact A9
      |decide
      |(rw[g];simp only[AD];omega)
      |(rw[g];omega)
      |(rw[g,Jv];exact w _ E4)
      |(rw[g,Jv]at h
        have h:KX (l.getD ((i+j)/2) d0) a b<0:=Kq h;refine⟨((i+j)/2+1,j),⟨G6,o,λk m=> ?_,t⟩,by show j-((i+j)/2+1)<j-i;omega,?_⟩
        .replace m:k<(i+j)/2+1:=m;by_cases e:k=(i+j)/2
         .rw[e];exact h
         .have q:=d.2.1 k ((i+j)/2) E4 E4;unfold KX at h⊢;unfold Io at h q⊢;grind)
      |(rw[g,Jv]at h
        have h:0<=KX (l.getD ((i+j)/2) d0) a b:=Int.not_lt.1 (M4 h);refine⟨(i,(i+j)/2),⟨G7,by show (i+j)/2<=l.length;omega,r,λk k1 k2=> ?_⟩,by show (i+j)/2-i<j-i;omega,?_⟩
        .replace k1:(i+j)/2<=k:=k1;by_cases e:k=(i+j)/2
         .rw[e];exact h
         .have q:=d.2.1 ((i+j)/2) k E4 E4;unfold KX at h⊢;unfold Io at h q⊢;grind))
    |(have x:i=j:=by(have:¬((i:Int)<(j:Int)):=by simpa using(by assumption:decide ((i:Int)<(j:Int))=false));omega
      subst x;have y:=c84 l i o r (λk=>t i (Jm _) k);first
      |(intro q;(have q:i<l.length:=by simpa using q);omega)
      |(intro q;(have q:i<l.length:=by simpa using q);exact w i q)
      |(rw[y])
      |(unfold LL;rw[y];rfl))
    |skip)
   all_goals refine X0a _ ?_;(repeat' first|constructor|intro h)<;>refine Lm ?_
   all_goals first|exact Aa|(rw[g];rfl)|(rw[g];omega)|skip
def d7k:AK
 | [x,.agg [.int .i64 a,.int .u8 b]]=>match NT x with
   |some (n,f)=>some ((ME n f/\n<=100000)/\Sb (EK n f)/\Ss (EK n f)/\0<=a/\a<=2000/\AD .u8 b,.tup [.int .i64 (IU (EK n f) a b),.bool (LL (EK n f) a b)])
   |none=>none
 |_=>none
def FFind:Fam:=⟨List Cr×Int×Int,λ(l,a,b)=>[.sl 3 l.length (DZ l) none,.agg [.int .i64 a,.int .u8 b]],λ(l,a,b)=>l.length<=100000/\Sb l/\Ss l/\0<=a/\a<=2000/\AD .u8 b,λ(l,a,b)=>.tup [.int .i64 (IU l a b),.bool (LL l a b)]⟩
theorem pFind:PS 204 d7k:=by
 refine con [(236,kBs)] (by simpa using pBs) FFind (λ_ _=>none) d7k ?_ ?_ Tryz.func204 E5 E5 E5 ?_
 .intro args pre s h c;unfold d7k at h;split at h
  .split at h
   .rename_i n f hx;rename_i a b _;cases h;exact⟨(EK n f,a,b),⟨HT (QQ hx c.1.1),Ej,Ji⟩,⟨by simp only[RW];exact c.1.2,c.2⟩,rfl⟩
   .cases h
  .cases h
 .exact C3
 .rintro⟨l,a,b⟩ c;replace c:l.length<=100000/\Sb l/\Ss l/\0<=a/\a<=2000/\AD .u8 b:=c;refine X0a _ ?_;(repeat' first|constructor|intro h)<;>refine Lm ?_
  all_goals(try rw[CR])
  all_goals(first|rfl|exact⟨⟨EC _,c.1⟩,c.2⟩|skip)
theorem GC{p:Pt}(h:BO p=0):AO p.W p.H=0/\p.l.any NN=false/\p.l.any (QB p)=false/\(List.range (p.l.length-1)).any (PG p)=false:=by unfold BO at h;grind
theorem d08{a b c d e f:Int}(h:Io a b c d<0)(k:Io c d e f<0):Io a b e f<0:=by unfold Io at*;grind
theorem b8s{p:Pt}(h:BO p=0):Sb p.l:=by
 obtain⟨_,_,_,a⟩:=GC h;rw[Jy]at a;have step:∀i,i+1<p.l.length->Io (p.l.getD i d0).c (p.l.getD i d0).e (p.l.getD (i+1) d0).c (p.l.getD (i+1) d0).e<0:=λi hi=>by have:=a i (Ki.2 E4);simp[PG]at this;simpa using this
 intro i j dm;induction j with
 |zero=>omega
 |succ j d=>
  intro b;by_cases e:i=j
  .subst e;exact step i b
  .exact d08 (d E4 E4) (step j b)
theorem f1b{p:Pt}(h:BO p=0)(b:∀c∈p.l,AD .u8 c.e):Ss p.l:=by obtain⟨d,_,a,_⟩:=GC h;intro x hx;rw[Jy]at a;have:=a x hx;simp[QB]at this;have q:=b1c d this.1;exact⟨q.1,E4,b x hx⟩
theorem nm_le{W H i e:Int}(hs:AO W H=0)(h:AW W H i e=0):0<=EG W H i e/\EG W H i e<=2000:=by
 have q:=b1c hs h;have z:=b85 (b3f h);have v:0<=AH W H i e:=by
  unfold AH;split
  .split
   .unfold QW;split
    .rename_i b;have w:∀X Y Q:Int,LS W H X Y Q=0->0<=Q->0<=4*(Y*W+X)+Q:=λX Y Q h hQ=>by
      unfold LS at h;rw[Jf hs]at h;split at h
      .rename_i a;have:=f83 (X:=X) (Y:=Y) hs a.2.1 a.2.2.1 a.2.2.2.1 a.2.2.2.2;omega
      .cases h
     refine w _ _ _ b ?_;have q3:=(TN W H i).1;unfold ID;split
     .unfold EL;have:∀l:List Int,(∀x∈l,0<=x)->∀n,0<=l.getD n 0:=λl c n=>by
       rw[Jd];cases hh:l[n]? with
       |none=>simp
       |some y=>exact c y (Jj hh)
      refine this _ (λx hx=> ?_) _;simp only[Jt,List.mem_nil_iff,or_false]at hx;rcases hx with rfl|rfl|rfl<;>exact this _ E7 _
     .omega
    .omega
   .omega
  .omega
 unfold EG;rw[Jf h];omega
def IR(p:Pt)(i e:Int):Int:=if BO p=0 then AW p.W p.H i e else BO p
def Ws(p:Pt)(i e:Int):Int:=if IR p i e=0 then EG p.W p.H i e else 0
def YV(p:Pt)(i e:Int):Int:=if IR p i e=0 then FK p.W p.H i e else 0
def LN(p:Pt)(i e:Int):Int:=if IR p i e=0 then(IU p.l (EG p.W p.H i e) (FK p.W p.H i e):Int)else 0
def LR(p:Pt)(i e:Int):Bool:=bif decide (IR p i e=0)then LL p.l (EG p.W p.H i e) (FK p.W p.H i e)else false
def kAt:AK
 | [x,.int .i64 i,.int .u8 e]=>match NR x with
   |some (a,p)=>some (a/\(∀c∈p.l,AD .u8 c.e)/\0<=e/\e<=255,.tup [.agg [.int .i64 (Ws p i e),.int .u8 (YV p i e)],.int .i64 (LN p i e),.bool (LR p i e),.int .i64 (IR p i e)])
   |none=>none
 |_=>none
def FAt:Fam:=⟨Pt×Int×Int,λ(p,i,e)=>[IH p,.int .i64 i,.int .u8 e],λ(p,_,e)=>p.l.length<=100000/\(∀c∈p.l,AD .u8 c.e)/\0<=e/\e<=255,λ(p,i,e)=>.tup [.agg [.int .i64 (Ws p i e),.int .u8 (YV p i e)],.int .i64 (LN p i e),.bool (LR p i e),.int .i64 (IR p i e)]⟩
theorem pAt:PS 180 kAt:=by
 refine con [(116,YS),(157,TB),(204,d7k)] (by simpa using⟨d35,d8v,pFind⟩) FAt (λ_ _=>none) kAt ?_ ?_ Tryz.func180 E5 E5 E5 ?_
 .intro args pre s h hp;unfold kAt at h;split at h
  .split at h
   .rename_i a p hx;rename_i i e _;cases h;exact Dr
   .cases h
  .cases h
 .exact C5
 .rintro⟨p,i,e⟩ hp;replace hp:p.l.length<=100000/\(∀c∈p.l,AD .u8 c.e)/\0<=e/\e<=255:=hp;refine X0a _ ?_;(repeat' first|constructor|intro h)<;>refine Lm ?_
  all_goals(try simp only[CR]at*)
  all_goals(have g:=@nm_le p.W p.H i e;have j:=@GC p;have k:=@b8s p;have hs:=@f1b p)
  all_goals(have m:AW p.W p.H i e=0->FK p.W p.H i e=e:=λh=>by(unfold FK;rw[if_pos h]))
  all_goals(first
   |exact⟨⟨EC _,hp.1⟩,hp.2.1⟩
   |exact hp.2.2.1
   |(have b:BO p=0:=by simpa using(by assumption:(!decide (BO p=0))=false)
     have d:AW p.W p.H i e=0:=by simpa using(by assumption:(!decide (AW p.W p.H i e=0))=false)
     have f:=g (j b).1 d;first
     |(refine⟨⟨EC _,hp.1⟩,k b,hs b hp.2.1,f.1,f.2,?_⟩;rw[m d];exact⟨hp.2.2.1,hp.2.2.2⟩)
     |simp[IR,Ws,YV,LN,LR,b,d])
   |(have b:BO p=0:=by simpa using(by assumption:(!decide (BO p=0))=false)
     have d:¬AW p.W p.H i e=0:=by simpa using(by assumption:(!decide (AW p.W p.H i e=0))=true)
     simp[IR,Ws,YV,LN,LR,b,d];done)
   |(have b:¬BO p=0:=by simpa using(by assumption:(!decide (BO p=0))=true)
     simp[IR,Ws,YV,LN,LR,b];done)
   |skip)
theorem ptEta(p:Pt):(⟨p.W,p.H,p.l⟩:Pt)=p:=rfl
def BB(p:Pt)(i e:Int):Int:=bif LR p i e then(p.l.getD (IU p.l (EG p.W p.H i e) (FK p.W p.H i e)) d0).k else 0
def c65:AK
 | [x,.int .i64 i,.int .u8 e]=>match NR x with
   |some (a,p)=>some (a/\(∀c∈p.l,AD .u8 c.e)/\0<=e/\e<=255,.tup [.int .u8 (BB p i e),.int .i64 (IR p i e)])
   |none=>none
 |_=>none
def FPKind:Fam:=⟨Pt×Int×Int,λ(p,i,e)=>[IH p,.int .i64 i,.int .u8 e],λ(p,_,e)=>p.l.length<=100000/\(∀c∈p.l,AD .u8 c.e)/\0<=e/\e<=255,λ(p,i,e)=>.tup [.int .u8 (BB p i e),.int .i64 (IR p i e)]⟩
theorem pPKind:PS 137 c65:=by
 refine con [(180,kAt)] (by simpa using pAt) FPKind (λ_ _=>none) c65 ?_ ?_ Tryz.func137 E5 E5 E5 ?_
 .intro args pre s h hp;unfold c65 at h;split at h
  .split at h
   .rename_i a p hx;rename_i i e _;cases h;exact Dr
   .cases h
  .cases h
 .exact C5
 .rintro⟨p,i,e⟩ hp;replace hp:p.l.length<=100000/\(∀c∈p.l,AD .u8 c.e)/\0<=e/\e<=255:=hp;refine X0a _ ?_;(repeat' first|constructor|intro h)<;>refine Lm ?_
  all_goals(try simp only[CR,ptEta]at*)
  all_goals(have g:LR p i e=true->IR p i e=0/\LL p.l (EG p.W p.H i e) (FK p.W p.H i e)=true:=λh=>by(unfold LR at h;grind))
  all_goals(first
   |exact⟨⟨EC _,hp.1⟩,hp.2⟩
   |rfl
   |(have d:LR p i e=true:=by grind
     have b:=g d;have f:LN p i e=(IU p.l (EG p.W p.H i e) (FK p.W p.H i e):Int):=by unfold LN;rw[if_pos b.1]
     first
     |(show 0<=LN p i e/\LN p i e<_
       rw[f];have q:=b.2;unfold LL at q;grind)
     |(show (p.l.getD (LN p i e).toNat d0).k=_
       rw[f,Jv];unfold BB;rw[d,cond_true])
     |exact b.1.symm)
   |(have d:IR p i e=0->LR p i e=false:=by grind
     have b:LR p i e=false:=by grind
     unfold BB;rw[b,cond_false])
   |skip)
theorem cl_eta(c:Cl):(⟨c.x,c.y,c.q⟩:Cl)=c:=rfl
def FX(b:Bd)(u e:Int):Cl:=
 ⟨keep (GG (b.pl.getD u.toNat AE.d).t (b.pl.getD u.toNat AE.d).x (b.pl.getD u.toNat AE.d).y (JG (BT b.p.W b.p.H u) (BU b.p.W b.p.H u) (BZ b.p.W b.p.H u) e) (JI (BT b.p.W b.p.H u) (BU b.p.W b.p.H u) (BZ b.p.W b.p.H u) e) (ID (BT b.p.W b.p.H u) (BU b.p.W b.p.H u) (BZ b.p.W b.p.H u) e)) (LI (b.pl.getD u.toNat AE.d).t (b.pl.getD u.toNat AE.d).x (b.pl.getD u.toNat AE.d).y (JG (BT b.p.W b.p.H u) (BU b.p.W b.p.H u) (BZ b.p.W b.p.H u) e) (JI (BT b.p.W b.p.H u) (BU b.p.W b.p.H u) (BZ b.p.W b.p.H u) e)),
  keep (GG (b.pl.getD u.toNat AE.d).t (b.pl.getD u.toNat AE.d).x (b.pl.getD u.toNat AE.d).y (JG (BT b.p.W b.p.H u) (BU b.p.W b.p.H u) (BZ b.p.W b.p.H u) e) (JI (BT b.p.W b.p.H u) (BU b.p.W b.p.H u) (BZ b.p.W b.p.H u) e) (ID (BT b.p.W b.p.H u) (BU b.p.W b.p.H u) (BZ b.p.W b.p.H u) e)) (LV (b.pl.getD u.toNat AE.d).t (b.pl.getD u.toNat AE.d).x (b.pl.getD u.toNat AE.d).y (JG (BT b.p.W b.p.H u) (BU b.p.W b.p.H u) (BZ b.p.W b.p.H u) e) (JI (BT b.p.W b.p.H u) (BU b.p.W b.p.H u) (BZ b.p.W b.p.H u) e)),
  keep (GG (b.pl.getD u.toNat AE.d).t (b.pl.getD u.toNat AE.d).x (b.pl.getD u.toNat AE.d).y (JG (BT b.p.W b.p.H u) (BU b.p.W b.p.H u) (BZ b.p.W b.p.H u) e) (JI (BT b.p.W b.p.H u) (BU b.p.W b.p.H u) (BZ b.p.W b.p.H u) e) (ID (BT b.p.W b.p.H u) (BU b.p.W b.p.H u) (BZ b.p.W b.p.H u) e)) (KS (b.pl.getD u.toNat AE.d).t (ID (BT b.p.W b.p.H u) (BU b.p.W b.p.H u) (BZ b.p.W b.p.H u) e))⟩
def FD(b:Bd)(u:Int):Cl:=b.im.getD u.toNat Co.d
theorem oth_eq(b:Bd)(u e:Int):(⟨keep (GG (b.pl.getD u.toNat AE.d).t (b.pl.getD u.toNat AE.d).x (b.pl.getD u.toNat AE.d).y (JG (BT b.p.W b.p.H u) (BU b.p.W b.p.H u) (BZ b.p.W b.p.H u) e) (JI (BT b.p.W b.p.H u) (BU b.p.W b.p.H u) (BZ b.p.W b.p.H u) e) (ID (BT b.p.W b.p.H u) (BU b.p.W b.p.H u) (BZ b.p.W b.p.H u) e)) (LI (b.pl.getD u.toNat AE.d).t (b.pl.getD u.toNat AE.d).x (b.pl.getD u.toNat AE.d).y (JG (BT b.p.W b.p.H u) (BU b.p.W b.p.H u) (BZ b.p.W b.p.H u) e) (JI (BT b.p.W b.p.H u) (BU b.p.W b.p.H u) (BZ b.p.W b.p.H u) e)),keep (GG (b.pl.getD u.toNat AE.d).t (b.pl.getD u.toNat AE.d).x (b.pl.getD u.toNat AE.d).y (JG (BT b.p.W b.p.H u) (BU b.p.W b.p.H u) (BZ b.p.W b.p.H u) e) (JI (BT b.p.W b.p.H u) (BU b.p.W b.p.H u) (BZ b.p.W b.p.H u) e) (ID (BT b.p.W b.p.H u) (BU b.p.W b.p.H u) (BZ b.p.W b.p.H u) e)) (LV (b.pl.getD u.toNat AE.d).t (b.pl.getD u.toNat AE.d).x (b.pl.getD u.toNat AE.d).y (JG (BT b.p.W b.p.H u) (BU b.p.W b.p.H u) (BZ b.p.W b.p.H u) e) (JI (BT b.p.W b.p.H u) (BU b.p.W b.p.H u) (BZ b.p.W b.p.H u) e)),keep (GG (b.pl.getD u.toNat AE.d).t (b.pl.getD u.toNat AE.d).x (b.pl.getD u.toNat AE.d).y (JG (BT b.p.W b.p.H u) (BU b.p.W b.p.H u) (BZ b.p.W b.p.H u) e) (JI (BT b.p.W b.p.H u) (BU b.p.W b.p.H u) (BZ b.p.W b.p.H u) e) (ID (BT b.p.W b.p.H u) (BU b.p.W b.p.H u) (BZ b.p.W b.p.H u) e)) (KS (b.pl.getD u.toNat AE.d).t (ID (BT b.p.W b.p.H u) (BU b.p.W b.p.H u) (BZ b.p.W b.p.H u) e))⟩:Cl)=FX b u e:=rfl
theorem im_eq(b:Bd)(u:Int):b.im.getD u.toNat Co.d=FD b u:=rfl
def JE(b:Bd)(u e:Int)(s:Sm):Sm:=
 if AW b.p.W b.p.H u e=0 then
  if AH b.p.W b.p.H u e<u then s
  else if BB b.p u e=0 then {s with ps:=s.ps++[if FD b u=s.b then⟨AH b.p.W b.p.H u e,u⟩else⟨u,AH b.p.W b.p.H u e⟩]}
  else {s with ls:=s.ls++[⟨if FD b u=s.b then 1 else 0,if b.ht.getD u.toNat 0<b.ht.getD (AH b.p.W b.p.H u e).toNat 0 then u else AH b.p.W b.p.H u e,if b.ht.getD u.toNat 0<b.ht.getD (AH b.p.W b.p.H u e).toNat 0 then AH b.p.W b.p.H u e else u⟩]}
 else {s with en:=s.en++[u]}
def HG(b:Bd)(u e:Int)(S:List Sm):List Sm:=
 let T:=Do S (FD b u) (FX b u e)
 let i:=DM T (JQ (FD b u) (FX b u e))
 T.set i (JE b u e (T.getD i BG))
theorem f8j(b:Bd)(u e:Int)(s:Sm):CJ (JE b u e s)=CJ s:=by
 unfold JE;split
 .split
  .rfl
  .split<;>rfl
 .rfl
theorem b19{α:Type}{T:List α}{i j:Nat}{x d:α}(h:i<T.length):(T.set i x).getD j d=if j=i then x else T.getD j d:=by
 by_cases e:j=i
 .subst e;simp[h]
 .simp[Ju (Ne.symm e),e]
theorem b25(T:List Sm)(i:Nat)(s:Sm)(h:CJ s=CJ (T.getD i BG)):(T.set i s).map CJ=T.map CJ:=by
 apply Ma;intro j;simp only[K1];by_cases e:j=i
 .subst e;by_cases a:j<T.length
  .simp[a,h]
  .simp[a]
 .rw[Ju (Ne.symm e)]
theorem TZ(S:List Sm)(q:List Int):DP S q=(S.map CJ).any λk=>decide (k=q):=by simp[DP,List.any_map,Function.comp_def]
theorem Vx(S:List Sm)(q:List Int):DM S q=(S.map CJ).findIdx λk=>decide (k=q):=by simp[DM,List.findIdx_map,Function.comp_def]
theorem b44(b:Bd)(u e:Int)(S:List Sm):(HG b u e S).map CJ=(Do S (FD b u) (FX b u e)).map CJ:=b25 _ _ _ (f8j b u e _)
theorem d9v(b:Bd)(u e:Int)(S:List Sm):∀q,DP (Do S (FD b u) (FX b u e)) q=DP (HG b u e S) q:=λq=>by rw[TZ,TZ,b44]
theorem d8t(b:Bd)(u e:Int)(S:List Sm):∀q,DP (Do S (FD b u) (FX b u e)) q=true->DM (Do S (FD b u) (FX b u e)) q=DM (HG b u e S) q:=λq _=>by rw[Vx,Vx,b44]
theorem c6c(b:Bd)(u e:Int)(S:List Sm):(HG b u e S).length=(Do S (FD b u) (FX b u e)).length:=by simp[HG]
theorem c1t{S T:List Sm}(h:S.map CJ=T.map CJ)(i:Nat)(hi:i<S.length):JZ S i=JZ T i:=by
 have a:S.length=T.length:=by simpa using Md List.length h
 have e:CJ (S.getD i BG)=CJ (T.getD i BG):=by have:=Md (λl=>l[i]?) h;simp only[K1,Je hi,Je (a▸hi),Kn,K6]at this;simpa[Jd,hi,a▸hi]using this
 simp only[CJ,J7]at e;obtain⟨b,c,d,f,g,j⟩:=e;simp only[JZ,b,c,d,f,g,j]
theorem d8x(b:Bd)(u e:Int)(S:List Sm):∀i,i<(Do S (FD b u) (FX b u e)).length->JZ (Do S (FD b u) (FX b u e)) i=JZ (HG b u e S) i:=λi a=>c1t (b44 b u e S).symm i a
theorem VO(S:List Sm)(x y:Cl):DP (Do S x y) (JQ x y)=true:=by
 unfold Do;split
 .assumption
 .simp[DP,JQ,CJ]
theorem f6q(b:Bd)(u e:Int)(S:List Sm):(HG b u e S).getD (DM (Do S (FD b u) (FX b u e)) (JQ (FD b u) (FX b u e))) BG=JE b u e ((Do S (FD b u) (FX b u e)).getD (DM (Do S (FD b u) (FX b u e)) (JQ (FD b u) (FX b u e))) BG):=by unfold HG;rw[b19 (OL (VO S _ _)),Jf rfl]
theorem f90{b:Bd}{u e:Int}{S:List Sm}{j:Nat}(h:¬j=DM (Do S (FD b u) (FX b u e)) (JQ (FD b u) (FX b u e))):(HG b u e S).getD j BG=(Do S (FD b u) (FX b u e)).getD j BG:=by unfold HG;rw[b19 (OL (VO S _ _)),Jg h]
theorem d2v{b:Bd}{u e:Int}{s:Sm}(h:(!decide (AW b.p.W b.p.H u e=0))=true):JE b u e s={s with en:=s.en++[u]}:=by have h:¬AW b.p.W b.p.H u e=0:=Ea;unfold JE;rw[if_neg h]
theorem f1w{b:Bd}{u e:Int}{s:Sm}(h:(!decide (AW b.p.W b.p.H u e=0))=false)(a:decide (AH b.p.W b.p.H u e<u)=true):JE b u e s=s:=by have h:AW b.p.W b.p.H u e=0:=Ea;unfold JE;rw[if_pos h,if_pos (of_decide_eq_true a)]
theorem f2d{b:Bd}{u e:Int}{s:Sm}(h:(!decide (AW b.p.W b.p.H u e=0))=false)(a:decide (AH b.p.W b.p.H u e<u)=false)(c:BB b.p u e=0):JE b u e s={s with ps:=s.ps++[if FD b u=s.b then⟨AH b.p.W b.p.H u e,u⟩else⟨u,AH b.p.W b.p.H u e⟩]}:=by have h:AW b.p.W b.p.H u e=0:=Ea;unfold JE;rw[if_pos h,if_neg (of_decide_eq_false a),if_pos c]
theorem c66{b:Bd}{u e:Int}{s:Sm}(h:(!decide (AW b.p.W b.p.H u e=0))=false)(a:decide (AH b.p.W b.p.H u e<u)=false)(c:¬BB b.p u e=0):JE b u e s={s with ls:=s.ls++[⟨if FD b u=s.b then 1 else 0,if b.ht.getD u.toNat 0<b.ht.getD (AH b.p.W b.p.H u e).toNat 0 then u else AH b.p.W b.p.H u e,if b.ht.getD u.toNat 0<b.ht.getD (AH b.p.W b.p.H u e).toNat 0 then AH b.p.W b.p.H u e else u⟩]}:=by have h:AW b.p.W b.p.H u e=0:=Ea;unfold JE;rw[if_pos h,if_neg (of_decide_eq_false a),if_neg c]
theorem Vv{α:Type}{R:RT α}{l:List α}{x:α}{c:List SV}(a:c=R.sv x):∀i,i<l.length+1->(if i<l.length then R.row l i else(List.map (λx:Nat×List SV=>x.snd) [(0,c)].reverse).getD (i-l.length) [])=R.row (l++[x]) i:=by
 intro i hi;by_cases h:i<l.length
 .rw[Jf h,b0a R h]
 .have:i=l.length:=E4;subst this;rw[Jg h,L8,b09,a];rfl
theorem mem_en{s:Sm}{x:Int}{c:List SV}{m:Mem}(h:m=⟨(JW s).cs,[(s.ps.length,Bo.row s.ps),(s.ls.length,BW.row s.ls),(s.en.length+1,λi=>if i<s.en.length then AC.row s.en i else(List.map (λx:Nat×List SV=>x.snd) [(0,c)].reverse).getD (i-s.en.length) [])]⟩)(a:c=AC.sv x):m.le (JW {s with en:=s.en++[x]}):=by subst h;exact⟨rfl,rfl,λ_ _=>rfl,rfl,λ_ _=>rfl,E6,Vv a,Ji⟩
theorem f2j{s:Sm}{x:Pa}{c:List SV}{m:Mem}(h:m=⟨(JW s).cs,[(s.ps.length+1,λi=>if i<s.ps.length then Bo.row s.ps i else(List.map (λx:Nat×List SV=>x.snd) [(0,c)].reverse).getD (i-s.ps.length) []),(s.ls.length,BW.row s.ls),(s.en.length,AC.row s.en)]⟩)(a:c=Bo.sv x):m.le (JW {s with ps:=s.ps++[x]}):=by subst h;exact⟨rfl,E6,Vv a,rfl,λ_ _=>rfl,rfl,λ_ _=>rfl,Ji⟩
theorem f3h{s:Sm}{x:Lo}{c:List SV}{m:Mem}(h:m=⟨(JW s).cs,[(s.ps.length,Bo.row s.ps),(s.ls.length+1,λi=>if i<s.ls.length then BW.row s.ls i else(List.map (λx:Nat×List SV=>x.snd) [(0,c)].reverse).getD (i-s.ls.length) []),(s.en.length,AC.row s.en)]⟩)(a:c=BW.sv x):m.le (JW {s with ls:=s.ls++[x]}):=by subst h;exact⟨rfl,rfl,λ_ _=>rfl,E6,Vv a,rfl,λ_ _=>rfl,Ji⟩
theorem cl_of{a b:Cl}(h:(decide (a.x=b.x)&&(decide (a.y=b.y)&&decide (a.q=b.q)))=true):a=b:=by obtain⟨x,y,q⟩:=a;obtain⟨x',y',q'⟩:=b;simp at h;obtain⟨rfl,rfl,rfl⟩:=h;rfl
theorem f4p{a b:Cl}(h:(decide (a.x=b.x)&&(decide (a.y=b.y)&&decide (a.q=b.q)))=false):¬a=b:=by rintro rfl;simp at h
theorem d78{b:Bd}{u e:Int}{s:Sm}(h:(!decide (AW b.p.W b.p.H u e=0))=false)(c:decide (AH b.p.W b.p.H u e<u)=false)(f:decide (BB b.p u e=0)=false)(a:decide (b.ht.getD u.toNat AC.d<b.ht.getD (AH b.p.W b.p.H u e).toNat AC.d)=true):JE b u e s={s with ls:=s.ls++[⟨if FD b u=s.b then 1 else 0,u,AH b.p.W b.p.H u e⟩]}:=by have a:b.ht.getD u.toNat 0<b.ht.getD (AH b.p.W b.p.H u e).toNat 0:=Kq a;rw[c66 h c (M4 f),Jf a,Jf a]
theorem d2n{b:Bd}{u e:Int}{s:Sm}(h:(!decide (AW b.p.W b.p.H u e=0))=false)(c:decide (AH b.p.W b.p.H u e<u)=false)(f:decide (BB b.p u e=0)=false)(a:decide (b.ht.getD u.toNat AC.d<b.ht.getD (AH b.p.W b.p.H u e).toNat AC.d)=false):JE b u e s={s with ls:=s.ls++[⟨if FD b u=s.b then 1 else 0,AH b.p.W b.p.H u e,u⟩]}:=by have a:¬b.ht.getD u.toNat 0<b.ht.getD (AH b.p.W b.p.H u e).toNat 0:=M4 a;rw[c66 h c (M4 f),Jg a,Jg a]
theorem mvQ_le(t Q:Int):0<=KS t Q/\KS t Q<=4:=d1z t Q 4
theorem oth_q(b:Bd)(u e:Int):AD .u8 (FX b u e).q:=by have:=mvQ_le (b.pl.getD u.toNat AE.d).t (ID (BT b.p.W b.p.H u) (BU b.p.W b.p.H u) (BZ b.p.W b.p.H u) e);unfold FX keep;simp only[AD];split<;>omega
theorem b9w{α:Type}{P:α->Prop}{l:List α}{d:α}(h:∀x∈l,P x)(a:P d)(i:Nat):P (l.getD i d):=by
 rw[Jd];cases e:l[i]? with
 |none=>exact a
 |some x=>exact h x (Jj e)
theorem f0g{S:List Sm}{x y:Cl}(h:∀s∈S,s.ps.length<=1000000/\s.ls.length<=1000000/\s.en.length<=1000000)(i:Nat):((Do S x y).getD i BG).ps.length<=1000000/\((Do S x y).getD i BG).ls.length<=1000000/\((Do S x y).getD i BG).en.length<=1000000:=by
 refine b9w (P:=λs:Sm=>s.ps.length<=1000000/\s.ls.length<=1000000/\s.en.length<=1000000) (λs hs=> ?_) (by simp[BG]) i;unfold Do at hs;split at hs
 .exact h s hs
 .rcases Ka.1 hs with hs|hs
  .exact h s hs
  .rw[K4.1 hs];simp
theorem f0y{α:Type}{R:RT α}{l:List α}{x:α}{z:Nat->List SV}(a:z 0=R.sv x):∀i,i<l.length+1->(if i<l.length then R.row l i else z (i-l.length))=R.row (l++[x]) i:=by
 intro i hi;by_cases h:i<l.length
 .rw[Jf h,b0a R h]
 .have:i=l.length:=E4;subst this;rw[Jg h,L8,a,b09]
def bdIn(b:Bd)(S:List Sm)(u e:Int):Prop:=
 (b.p.l.length<=100000/\∀c∈b.p.l,AD .u8 c.e)/\(0<=e/\e<=255)/\(0<=u/\u<(b.pl.length:Int)/\u<(b.im.length:Int)/\u<(b.ht.length:Int))/\(AW b.p.W b.p.H u e=0->0<=AH b.p.W b.p.H u e/\AH b.p.W b.p.H u e<(b.ht.length:Int))/\
 (∀m∈b.pl,0<=m.t/\m.t<=255)/\(∀c∈b.im,AD .u8 c.q)/\S.length<=1000000/\∀s∈S,s.ps.length<=1000000/\s.ls.length<=1000000/\s.en.length<=1000000
def c5y:HK:=λa own=>match a with
 | [.own 0 0,.int .i64 u,.int .u8 e]=>(asBd own).map λq=>⟨q.1/\bdIn q.2.1 q.2.2 u e,.tup [],Sx q.2.1 (HG q.2.1 u e q.2.2),[3,4]⟩
 |_=>none
def FBMeet:FamH:=⟨(Bd×List Sm)×Int×Int,λ(_,u,e)=>[.own 0 0,.int .i64 u,.int .u8 e],λ((b,S),_,_)=>Sx b S,λ((b,S),u,e)=>bdIn b S u e,λ_=>.tup [],λ((b,S),u,e)=>Sx b (HG b u e S),[3,4]⟩
theorem pBMeet:HS 105 c5y:=by
 refine HX {l:=[(118,VZ),(129,Vk),(119,VG),(110,Tx),(137,c65)],h:=[(136,hBAt)],c2:=true,gr:=λid=>bif Nat.beq id 3 then [.focus 12,.keep [0,1,2,6,8,10,12,13,14,15,17,68,81,103,117,136,151]]else [.keep [0,1,2,6,8,10,12,13,14,15,17,68,81,103,117,136,151]],G:={gx:=λ_=>[.unfocus 4]}} ⟨by simpa using⟨b26,b05,b56,b1f,pPKind⟩,E6,by simpa using pBAt⟩ FBMeet (λ_ _=>none) c5y ?_ ?_ ?_ Tryz.func105 E5 E5 E5 ?_
 .intro args own r h a;unfold c5y at h;split at h
  .rename_i u e;simp only[Jk]at h;obtain⟨⟨q,n,S⟩,hx,rfl⟩:=h;obtain⟨o,s,h3⟩:=d1a hx a.1;exact⟨((n,S),u,e),⟨Ec,Ec,Ec,Ji⟩,o,s,a.2,rfl,rfl,rfl⟩
  .cases h
 .exact C5
 .intro i;show 5<=5;decide
 .rintro⟨⟨b,S⟩,u,e⟩ μ a;replace a:bdIn b S u e:=a;have g:=TN b.p.W b.p.H u;have v:=d2f (X:=BT b.p.W b.p.H u) (Y:=BU b.p.W b.p.H u) g.1 a.2.1.1;have w:=oth_q b u e;have z:AD .u8 (FD b u).q:=b9w (P:=λc:Cl=>AD .u8 c.q) a.2.2.2.2.2.1 (by show (0:Int)<=0/\(0:Int)<=255;omega) u.toNat
  have k:=b9w (P:=λm:Mv=>0<=m.t/\m.t<=255) (d:=AE.d) a.2.2.2.2.1 E7 u.toNat
  have A:=OL (VO S (FD b u) (FX b u e));have q8:=f0g (x:=FD b u) (y:=FX b u e) a.2.2.2.2.2.2.2 (DM (Do S (FD b u) (FX b u e)) (JQ (FD b u) (FX b u e)));have B:S.length<=1000000:=a.2.2.2.2.2.2.1;refine X0a _ ?_;(repeat' first|constructor|intro h)<;>refine Lm ?_
  all_goals(try simp only[CR,RT.lst_row,Wj,oth_eq,cl_eta,im_eq]at*)
  all_goals(first
   |exact λ_ _=>Ji
   |exact Be
   |exact d9v _ _ _ _
   |exact d8t _ _ _ _
   |exact d8x _ _ _ _
   |exact(c6c _ _ _ _).symm
   |exact a.2.1.1
   |exact⟨a.2.2.1.1,a.2.2.1.2.1⟩
   |exact⟨a.2.2.1.1,a.2.2.1.2.2.1⟩
   |exact⟨a.2.2.1.1,a.2.2.1.2.2.2⟩
   |exact⟨g.1,a.2.1.1⟩
   |exact⟨k.1,k.2,v.1⟩
   |exact⟨Ji,A⟩
   |exact⟨⟨EC _,a.1.1⟩,a.1.2,a.2.1⟩
   |exact a.2.2.2.1 I9
   |exact⟨E4,MK E5 E4⟩
   |(refine⟨⟨⟨⟨EC _,a.1.1⟩,RT.is_row AE _,RT.is_row Co _,RT.is_row AC _⟩,Ji,λ_ _=>Ji,λ_=>Ji,λ_ _=>Ji,λi hi=> ?_⟩,⟨z,w⟩,B⟩
     rw[b4g];exact UC _)
   |(show u.toNat<b.ht.length;have:=a.2.2.1;omega)
   |(show (AH b.p.W b.p.H u e).toNat<b.ht.length;have:=a.2.2.2.1 I9;omega)
   |skip)
  all_goals(intro j hj;by_cases f:j=DM (Do S (FD b u) (FX b u e)) (JQ (FD b u) (FX b u e)))
  all_goals(first
   |(rw[Jg f,f90 f];exact UC _)
   |(subst f;rw[Jf rfl,f6q])
   |skip)
  all_goals(first
   |(rw[d2v E8]
     refine And.intro rfl (And.intro rfl (And.intro (λ_ _=>rfl) (And.intro rfl (And.intro (λ_ _=>rfl) (And.intro (by simp[]) (And.intro (f0y (R:=AC) rfl) trivial))))))
     done)
   |(rw[f1w E8 E8];exact And.intro rfl (And.intro rfl (And.intro (λ_ _=>rfl) (And.intro rfl (And.intro (λ_ _=>rfl) (And.intro rfl (And.intro (λ_ _=>rfl) trivial)))))))
   |skip)
  .rw[d2v E8];exact mem_en rfl rfl
  all_goals(try simp only[decide_true,N4,show decide ((1:Int)=0)=false from rfl,Bool.and_false,Bool.false_eq_true]at*)
  all_goals(try contradiction)
  all_goals(first
   |(exfalso;exact Bool.noConfusion ((show decide (BB b.p u e=0)=true from E8).symm.trans E8))
   |(rw[f2d E8 E8 (Kq E8)]
     first
      |(rw[Jf (cl_of E8)];exact f2j rfl rfl)
      |(rw[Jg (f4p E8)];exact f2j rfl rfl))
   |(first|rw[d78 E8 E8 E8 E8]|rw[d2n E8 E8 E8 E8]
     first
      |(rw[Jf (cl_of E8)];exact f3h rfl rfl)
      |(rw[Jg (f4p E8)];exact f3h rfl rfl))
   |skip)
section
open Go.Sort
theorem b00{α:Type}[Inhabited α]{enc:α->List Value}{k:Nat}{w:World}{b o m:Nat}{a:Array α}{os:Array Obj}{i:Nat}(hi:i<w.heap.size)(c:i≠b):(sortWorldK enc k w b o m a os).heap[i]?=w.heap[i]?:=by unfold sortWorldK putRowK;rw[heap_grow_old _ _ Ez];show (w.heap.modify b _)[i]?=_;rw[Mq,Jg (Ne.symm c)]
theorem b1s{α:Type}[Inhabited α]{enc:α->List Value}{k:Nat}{w:World}{b o m:Nat}{a:Array α}{os:Array Obj}{c:Array Value}{T:TypeId}{z:Nat×Nat}(h:w.heap[b]?=some (.cells c T z)):(sortWorldK enc k w b o m a os).heap[b]?=some (.cells (putCells id o (flatK enc k a) c) T z):=by have hi:b<w.heap.size:=(Kp.1 h).1;unfold sortWorldK putRowK;rw[heap_grow_old _ _ Ez];show (w.heap.modify b _)[b]?=_;rw[Mq,Jf rfl,h];rfl
theorem b2z{α:Type}[Inhabited α]{enc:α->List Value}{k:Nat}{w:World}{b o m:Nat}{a:Array α}{os:Array Obj}:w.heap.size<=(sortWorldK enc k w b o m a os).heap.size:=by unfold sortWorldK putRowK;simp
theorem d3u{α:Type}[Inhabited α]{enc:α->List Value}{k:Nat}{w:World}{b o m:Nat}{a:Array α}{os:Array Obj}{X:Nat->Prop}(c:X b):Fr w.heap.size X w (sortWorldK enc k w b o m a os):=
 ⟨rfl,rfl,rfl,λ_=>Nat.le_add_right _ _,b2z,λ_ d f=>b00 d (λe=>f (e▸c))⟩
theorem b7b{X:Nat->Prop}{w w':World}(h:Fr w.heap.size X w w')(b:∀i,¬X i):∃q c,w'=grow (w.drewN q) c:=by
 refine⟨w'.drawn-w.drawn,w'.heap.extract w.heap.size w'.heap.size,?_⟩;have h1:=h.drawn trivial;have d:w'.heap=w.heap++w'.heap.extract w.heap.size w'.heap.size:=by
  apply Array.ext_getElem?;intro i;rw[Array.getElem?_append];split
  .rename_i a;exact h.block i a (b i)
  .rename_i a;have:=h.size;rw[Array.getElem?_extract];split
   .congr 1;omega
   .rw[Array.getElem?_eq_none];omega
 have e:=h.os;have f:=h.tape;have g:=h.output;cases w';cases w;simp only[grow,World.drewN,World.mk.injEq]at*;subst e f g;exact⟨d,rfl,E4,rfl,rfl⟩
theorem b2i{F c:Array Value}{o t:Nat}(h:t<F.size)(a:o+t<c.size):(putCells id o F c)[o+t]?=some F[t]!:=by simp only[putCells,Array.getElem?_mapIdx];rw[Mh a];simp only[Kn];rw[Jf ⟨E4,E4⟩,show o+t-o=t from E4];rfl
theorem b0w{F c:Array Value}{o:Nat}:(putCells id o F c).size=c.size:=by simp[putCells]
theorem c33{F c:Array Value}{o:Nat}{v:Value}(b:∀t,t<F.size->F[t]!.oneCell'=true)(d:∀v∈c,v.oneCell'=true)(h:v∈putCells id o F c):v.oneCell'=true:=by
 obtain⟨i,a,rfl⟩:=Array.mem_iff_getElem.1 h;have e:i<c.size:=by rw[b0w]at a;exact a
 simp only[putCells,Array.getElem_mapIdx];split
 .exact b _ E4
 .exact d _ (Array.getElem_mem e)
theorem f05{α:Type}[Inhabited α]{enc:α->List Value}{k:Nat}{d:Array α}(b:∀x,(enc x).length=k)(c:∀x,∀v∈enc x,v.oneCell'=true){t:Nat}(a:t<(flatK enc k d).size):(flatK enc k d)[t]!.oneCell'=true:=by
 rw[size_flatK]at a;rw[get_flatK _ _ _ _ a];have k0:0<k:=by
  rcases Ku k with h|h
  .subst h;simp at a
  .exact h
 have:t%k<(enc d[t/k]!).length:=by rw[b];exact Nz _ k0
 rw[Lx (enc d[t/k]!) (t%k) this];exact c _ _ (Kd this)
theorem b97{α:Type}[Inhabited α]{enc:α->List Value}{k:Nat}{d:Array α}{i j:Nat}(hi:i<d.size)(hj:j<k):i*k+j<(flatK enc k d).size/\(flatK enc k d)[i*k+j]! =(enc d[i]!)[j]!:=by
 have lt:i*k+j<d.size*k:=by have:=Ks k (show i+1<=d.size from hi);rw[Mn,Nat.one_mul]at this;omega
 have a:(i*k+j)/k=i:=(blk_iff k i _ E4).1 ⟨E4,E4⟩;have b:(i*k+j)%k=j:=by rw[Nat.mod_eq_sub_div_mul,a];omega
 exact⟨by simpa using lt,by rw[get_flatK _ _ _ _ lt,a,b]⟩
end
section
open Go.Sort Go.Proofs Go.Shelf
def AZ:List Int->List Int->Int
 | [],[]=>0
 | [],_::_=> -1
 |_::_,[]=>1
 |a::r,b::q=>if a=b then AZ r q else CT a b
theorem IG:∀l m:List Int,AZ m l= -AZ l m
 | [],[]=>rfl
 | [],_::_=>rfl
 |_::_,[]=>rfl
 |a::r,b::q=>by
  simp only[AZ];by_cases h:a=b
  .rw[Jf h,Jf h.symm];exact IG r q
  .rw[Jg h,Jg (λe=>h e.symm)];unfold CT;repeat' split<;>omega
theorem NV:∀l m:List Int,AZ l m=0->l=m
 | [],[],_=>rfl
 | [],_::_,h=>Fu
 |_::_,[],h=>Fu
 |a::r,b::q,h=>by
  simp only[AZ]at h;by_cases e:a=b
  .rw[Jf e]at h;rw[e,NV r q h]
  .rw[Jg e]at h;unfold CT at h;split at h<;>(try split at h)<;>omega
theorem Rv(l:List Int):AZ l l=0:=by have:=IG l l;omega
theorem RD:∀l m n:List Int,AZ l m<0->AZ m n<0->AZ l n<0
 | [],[],n,h,_=>Fu
 | [],_::_,[],_,h=>Fu
 | [],_::_,_::_,_,_=>by simp[AZ]
 |_::_,[],n,h,_=>Fu
 |_::_,_::_,[],_,h=>Fu
 |a::r,b::q,c::s,e,d=>by
  simp only[AZ]at e d⊢;have k (x y:Int):CT x y<0->x<y:=by unfold CT;split<;>(try split)<;>omega
  have i (x y:Int) (h:x<y):CT x y<0:=by unfold CT;rw[if_pos h];omega
  by_cases g:a=b
  .subst g;rw[Jf rfl]at e;by_cases f:a=c
   .subst f;rw[Jf rfl]at d⊢;exact RD r q s e d
   .rw[Jg f]at d⊢;exact d
  .rw[Jg g]at e;have:=k _ _ e;by_cases f:b=c
   .subst f;rw[Jg g];exact e
   .rw[Jg f]at d;have:=k _ _ d;rw[Jg E4];exact i _ _ E4
theorem d4i{α:Type}(key:α->List Int):SWO (ltOf λx y:α=>AZ (key x) (key y))where
 irrefl x:=by simp[ltOf,Rv]
 trans x y z h1 h2:=by simp only[ltOf,Jq]at*;exact RD _ _ _ h1 h2
 ntrans x y z h1 h2:=by
  simp only[ltOf,Lt]at*;intro a;have n1:=IG (key x) (key y);have n2:=IG (key y) (key z);by_cases b:AZ (key x) (key y)=0
  .rw[NV _ _ b]at a;exact h2 a
  .exact h2 (RD _ _ _ E4 a)
def VH{β:Type}(key:β->List Int)(x:β):List β->List β
 | []=>[x]
 |y::r=>if AZ (key x) (key y)<=0 then x::y::r else y::VH key x r
def GY{β:Type}(key:β->List Int)(l:List β):List β:=l.foldr (VH key) []
theorem b6h{β:Type}(key:β->List Int)(x:β):∀l,(VH key x l).Perm (x::l)
 | []=>.refl _
 |y::r=>by
  simp only[VH];split
  .exact .refl _
  .exact((b6h key x r).cons y).trans (.swap x y r)
theorem Um{β:Type}(key:β->List Int):∀l,(GY key l).Perm l
 | []=>.refl _
 |x::l=>(b6h key x _).trans ((Um key l).cons x)
theorem Rc{β:Type}(key:β->List Int)(l:List β):(GY key l).length=l.length:=(Um key l).length_eq
theorem SJ{β:Type}(key:β->List Int)(l:List β)(x:β):x∈GY key l↔x∈l:=(Um key l).mem_iff
theorem b90{l m n:List Int}(h:AZ l m<=0)(k:AZ m n<=0):AZ l n<=0:=by
 by_cases a:AZ l m=0
 .rw[NV _ _ a];exact k
 .by_cases b:AZ m n=0
  .rw[<-NV _ _ b];exact h
  .exact Int.le_of_lt (RD l m n E4 E4)
theorem b5w{β:Type}(key:β->List Int)(x:β):∀l,l.Pairwise (λa b=>AZ (key a) (key b)<=0)->(VH key x l).Pairwise (λa b=>AZ (key a) (key b)<=0)
 | [],_=>List.pairwise_singleton _ _
 |y::r,h=>by
  have d:=Kz.1 h;simp only[VH];split
  .rename_i e;exact Kz.2 ⟨λz c=>by
    rcases Jt.1 c with rfl|c
    .exact e
    .exact b90 e (d.1 z c),h⟩
  .rename_i e;refine Kz.2 ⟨λz c=> ?_,b5w key x r d.2⟩;rcases Jt.1 ((b6h key x r).mem_iff.1 c)with rfl|c
   .have:=IG (key z) (key y);omega
   .exact d.1 z c
theorem b11{β:Type}(key:β->List Int):∀l,(GY key l).Pairwise (λa b=>AZ (key a) (key b)<=0)
 | []=>List.Pairwise.nil
 |x::l=>b5w key x _ (b11 key l)
theorem b6v{β:Type}(key:β->List Int)(l:List β)(g:∀x∈l,∀y∈l,key x=key y->x=y):(l.mergeSort λx y=>decide (AZ (key x) (key y)<=0))=GY key l:=by
 have d:=List.mergeSort_perm l (λx y=>decide (AZ (key x) (key y)<=0));refine List.Perm.eq_of_pairwise (le:=λa b=>AZ (key a) (key b)<=0) (λa b i j e f=> ?_) ?_ (b11 key l) (d.trans (Um key l).symm)
 .have:=IG (key a) (key b);exact g a (d.mem_iff.1 i) b ((SJ key l b).1 j) (NV _ _ E4)
 .have:=List.pairwise_mergeSort (le:=λx y=>decide (AZ (key x) (key y)<=0)) (λa b c e f=>by simp only[Jq]at*;exact b90 e f) (λa b=>by have:=IG (key a) (key b);simp only[Kk,Jq];omega) l;exact this.imp λh=>Ea
theorem d54{β:Type}{key:β->List Int}{l:List β}(h:(l.map key).Nodup):∀x∈l,∀y∈l,key x=key y->x=y:=by
 have a:=Kg.1 (Kw.1 h);intro x hx y d e;obtain⟨i,b,rfl⟩:=K7.1 hx;obtain⟨j,c,rfl⟩:=K7.1 d;rcases N2 i j with h|h|h
 .exact absurd e (a i j b c h)
 .subst h;rfl
 .exact absurd e.symm (a j i c b h)
def svV:SV->Value
 |.int k n=>.int k n
 |_=>undef
section
variable{β:Type}{R:RT β}{w:World}{H:Nat->Prop}{μ:Mu}
theorem sv_D(b:∀x,∀s∈R.sv x,∃k n,s=.int k n){x:β}{i:Nat}{s:SV}{v:Value}(hs:(R.sv x)[i]?=some s)(a:((R.sv x).map svV)[i]?=some v):D w H μ s v:=by obtain⟨k,n,rfl⟩:=b x s (Jj hs);rw[K1,hs]at a;cases a;exact .int
theorem sv_V(a:∀x,∀s∈R.sv x,∃k n,s=.int k n){x:β}{i:Nat}{s:SV}{v:Value}(hs:(R.sv x)[i]?=some s)(b:D w H μ s v):((R.sv x).map svV)[i]?=some v:=by obtain⟨k,n,rfl⟩:=a x s (Jj hs);cases b;rw[K1,hs];rfl
end
def GW{β:Type}(R:RT β)(P:β->Prop)(x:{x:β // P x}):List Value:=(R.sv x.1).map svV
theorem g1s{β:Type}(R:RT β){ρ:Ren}{fs fc:FuncId}(L:SlLaysF0.n6 Tryz.prog ρ)(m8:ρ.f 6=fs)(hU:∃fn,Tryz.prog.funcs[fs]?=some fn/\(fn.name== "runtime.NumGoroutine")=false/\fn.body.isNone=false)
 (aE:∀w,(isAgg (ρ.t 24)).run Tryz.prog w=.ok true w) (zE:∀w,(Go.sizeOf (ρ.t 24)).run Tryz.prog w=.ok R.sz w) (hL:∀x,(R.sv x).length=R.sz) (hI:∀x,∀s∈R.sv x,∃k n,s=.int k n)
 (kc:AK) (pc:PS fc kc) (eg:∀args w,(callFunc fc args).run Tryz.prog w=.ok (.enter fc args) w) (e:KZ)
 (he:∀T sz n g rest pre g' r,e T sz n g rest=some (pre,g',r)->sz=R.sz/\r=false/\∃caps key,rest=[.clo fc caps]/\(pre->R.is n g/\n<=100000/\
   (∀x∈R.lst n g,∀y∈R.lst n g,∃p:Prop,kc ([.agg (R.sv x),.agg (R.sv y)]++caps)=some (p,.int .i64 (AZ (key x) (key y)))/\p)/\(∀x∈R.lst n g,∀y∈R.lst n g,key x=key y->x=y)/\g'=R.row (GY key (R.lst n g)))):ES fs e:=by
 refine⟨hU,?_⟩;intro A w v T sz n g c rest vals pre g' r hA hv c7 hB hD rq hp;obtain⟨rfl,rfl,caps,key,rfl,db⟩:=he _ _ _ _ _ _ _ _ rq;obtain⟨w9,hn,rd,re,rfl⟩:=db hp;obtain⟨fv,rfl⟩:∃fv,vals=[fv]:=by
  have:=hD.1;match vals,this with
  | [fv],_=>exact⟨fv,rfl⟩
 have hf:=hD.2 0 _ fv rfl rfl;cases hf with
 |clo cvs fj pv=>
 obtain⟨a,m,rfl,fq,j7,fg,hl,bc⟩:=hB;rcases Ku n with h0|h0
 .subst h0;have fi:=AnyF.slices_SortFunc_none {L with} a m (.func (.func fc) #[] cvs.toArray) w;rw[m8]at fi;refine fi.mono ?_;rintro e w' ⟨rfl,rfl⟩;refine⟨_,rfl,λh=>Eg,λ_=>rfl,⟨a,m,rfl,fq,j7,fg,λi hi=>absurd hi E4,?_⟩,Fr.refl _ _ _⟩;rcases bc with h|⟨b,o,vs,c8,rfl,hh,ho,h1,hd⟩
  .exact .inl h
  .exact D5
 .rcases bc with h|⟨b,o,vs,c8,rfl,hh,ho,h1,hd⟩
  .omega
  have hb:b<w.heap.size:=(Kp.1 hh).1;have be:(R.lst n g).length=n:=RT.lst_length R n g;have du:∀i,i<n->(R.lst n g)[i]?=some (R.of (g i)):=λi hi=>by simp[RT.lst,hi]
  haveI:Inhabited {x:β // x∈R.lst n g}:=⟨⟨R.of (g 0),Jj (du 0 h0)⟩⟩
  let d:Array {x:β // x∈R.lst n g}:=(R.lst n g).attach.toArray
  have Q3:d.size=n:=by simp only[d,List.size_toArray,List.length_attach];exact be
  have Zh:∀i,i<n->(d[i]!).1=R.of (g i):=λi hi=>by rw[Lx d i E4];simp only[d,List.getElem_toArray,List.getElem_attach];simp[RT.lst]
  have bh:∀i j,i<n->j<R.sz->o+i*R.sz+j<vs.length:=λi j hi hj=>by have:=MA hi hj;have:n*R.sz<=m*R.sz:=Ks _ fq;omega
  have hk:∀x,(GW R (λx=>x∈R.lst n g) x).length=R.sz:=λx=>by simp[GW,hL]
  have dc:∀i j,i<n->j<R.sz->vs[o+i*R.sz+j]?=some ((GW R (λx=>x∈R.lst n g) d[i]!)[j]!):=by
   intro i j hi hj;have b6:=bh i j hi hj;have bm:j<(R.sv (R.of (g i))).length:=by rw[hL];exact hj
   have hs:(R.sv (R.of (g i)))[j]?=some (R.sv (R.of (g i)))[j]:=Je bm;have V0:=hd i j _ _ hi (by rw[w9 i hi];exact hs) (Je b6);have:=sv_V hI hs V0;rw[Je b6];unfold GW;rw[Zh i hi,Lx _ j G5];rw[Je G5]at this;exact this.symm
  have R6:∀x,∀v∈GW R (λx=>x∈R.lst n g) x,v.oneCell'=true:=λx v hv=>by obtain⟨s,hs,rfl⟩:=Jx.1 hv;obtain⟨k,q,rfl⟩:=hI _ s hs;rfl
  have hH:HoldsK (GW R (λx=>x∈R.lst n g)) R.sz w b o d:=by
   intro t ht;have wx:t<n*R.sz:=by simpa[Q3]using ht
   have hz:0<R.sz:=by
    rcases Ku R.sz with hz|hz
    .rw[hz]at wx;omega
    .exact hz
   have t1:t/R.sz<n:=Nat.div_lt_of_lt_mul (by rwa[Mx]);have t2:=Nz t hz;have q:=b97 (enc:=GW R (λx=>x∈R.lst n g)) (k:=R.sz) (d:=d) (i:=t/R.sz) (j:=t%R.sz) E4 t2;have hc:=dc (t/R.sz) (t%R.sz) t1 t2;rw[Lu,Nat.div_add_mod']at hc;rw[Nat.div_add_mod']at q;rw[q.2];refine⟨?_,?_⟩
   .simp only[World.cell?,hh,Option.isSome_none,Iz,List.getElem?_toArray];exact hc
   .simp[World.frozen?,hh]
  have wa:CmpLays Tryz.prog fc cvs.toArray (GW R (λx=>x∈R.lst n g)) R.sz (λx y=>AZ (key x.1) (key y.1)) b o d.size w:=by
   intro q os dk hdk x y;have bn:w.heap.size<=(sortWorldK (GW R (λx=>x∈R.lst n g)) R.sz w b o q dk os).heap.size:=b2z;have kp:Keeps w (sortWorldK (GW R (λx=>x∈R.lst n g)) R.sz w b o q dk os) (held A (GJ (.slice (some ⟨b,o,none⟩) n m))) (held A (GJ (.slice (some ⟨b,o,none⟩) n m))) BK BK:=
    ⟨bn,λi hi ba=>b00 hi (λe=>ba (.inr ⟨0,_,rfl,e▸KA c8⟩)),λ_ _ h=>h,λ_ _ h=>h⟩
   obtain⟨p,Q4,me⟩:=rd x.1 x.2 y.1 y.2;have jr:DL (sortWorldK (GW R (λx=>x∈R.lst n g)) R.sz w b o q dk os) (held A (GJ (.slice (some ⟨b,o,none⟩) n m))) BK [.agg (R.sv x.1),.agg (R.sv y.1)] [.agg (GW R (λx=>x∈R.lst n g) x).toArray,.agg (GW R (λx=>x∈R.lst n g) y).toArray]:=
    ⟨rfl,λi s v hs hv=>by
      match i,hs,hv with
      |0,hs,hv=>
       simp at hs hv;subst hs hv;exact .agg _ (by simp[GW]) (λj s v hs hv=>sv_D hI hs hv)
      |1,hs,hv=>
       simp at hs hv;subst hs hv;exact .agg _ (by simp[GW]) (λj s v hs hv=>sv_D hI hs hv)⟩
   have Zi:DL (sortWorldK (GW R (λx=>x∈R.lst n g)) R.sz w b o q dk os) (held A (GJ (.slice (some ⟨b,o,none⟩) n m))) BK caps cvs:=⟨fj,λi s v hs hv=>(pv i s v hs hv).keep kp⟩
   have:=pc.2 (held A (GJ (.slice (some ⟨b,o,none⟩) n m))) (sortWorldK (GW R (λx=>x∈R.lst n g)) R.sz w b o q dk os) _ _ p _
    (λi hi=>by
      rcases hi with hi|⟨j,z,hj,hz⟩
      .exact Kb (hA i hi) bn
      .unfold GJ at hj;split at hj
       .cases hj;exact Kb (hv i hz).1 bn
       .cases hj)
    (λg t hg=>⟨(c7 g t hg).1,(c7 g t hg).2.keep kp⟩) (c5r jr Zi) Q4 me
   have e:(#[Value.agg (GW R (λx=>x∈R.lst n g) x).toArray,Value.agg (GW R (λx=>x∈R.lst n g) y).toArray]++cvs.toArray:Array Value)=([Value.agg (GW R (λx=>x∈R.lst n g) x).toArray,Value.agg (GW R (λx=>x∈R.lst n g) y).toArray]++cvs).toArray:=Fb;rw[e];refine this.mono ?_;rintro e w' ⟨v,rfl,ze,bj⟩;cases ze;exact⟨rfl,b7b bj (λ_ h=>h)⟩
  have fi:=AnyQ.slices_SortFunc_total L R.sz aE zE (GW R (λx=>x∈R.lst n g)) hk R6 (λx y=>AZ (key x.1) (key y.1)) (d4i (λx:{x:β // x∈R.lst n g}=>key x.1)) fc cvs.toArray b o m d w eg wa hH hb E4
   (λx y h1 h2=>Subtype.ext (re _ x.2 _ y.2 (NV _ _ (by simp only[ltOf,Lt]at h1 h2;have:=IG (key x.1) (key y.1);omega))))
  rw[m8,Q3]at fi;refine fi.mono ?_;rintro e w' ⟨rfl,q,os,rfl⟩;generalize hM:(d.toList.mergeSort λx y=> !(ltOf (λx y:{x:β // x∈R.lst n g}=>AZ (key x.1) (key y.1))) y x)=M;have rf:M.map (·.1)=GY key (R.lst n g):=by
   rw[<-hM,<-b6v key _ re];rw[List.map_mergeSort (s:=λx y=>decide (AZ (key x) (key y)<=0))]
   .simp[d]
   .intro x _ y _;have:=IG (key x.1) (key y.1);simp only[ltOf,<-decide_not,decide_eq_decide];omega
  have gy:M.length=n:=by have:=Md List.length rf;rw[Ke,Rc,be]at this;exact this
  have Zj:∀i,i<n->(M.toArray[i]!).1=(GY key (R.lst n g)).getD i R.d:=λi hi=>by rw[<-rf,Lx M.toArray i G8];simp[gy,hi]
  refine⟨_,rfl,λh=>Eg,λ_=>rfl,⟨_,m,rfl,fq,j7,fg,λi hi=>⟨hL _,?_⟩,.inr ⟨b,o,(putCells id o (flatK (GW R (λx=>x∈R.lst n g)) R.sz M.toArray) vs.toArray).toList,c8,rfl,?_,?_,?_,?_⟩⟩,d3u (KA c8)⟩
  .rw[Jp];intro s hs;obtain⟨k,q,rfl⟩:=hI _ s hs;rfl
  .rw[b1s hh]
  .rw[Lq,b0w];simpa using ho
  .intro v hv;exact Ds
  .intro i j s v hi hs hv;have hj:j<R.sz:=Hi;have q:=b97 (enc:=GW R (λx=>x∈R.lst n g)) (k:=R.sz) (d:=M.toArray) (i:=i) (j:=j) G8 hj;rw[Li,Lu,b2i q.1 (by simp;have:=bh i j hi hj;omega),q.2]at hv;cases hv;have hs':(R.sv (M.toArray[i]!).1)[j]?=some s:=by rw[Zj i hi];exact hs
   refine sv_D hI hs' ?_;have bm:j<((R.sv (M.toArray[i]!).1).map svV).length:=by rw[Ke,hL];exact hj
   unfold GW;rw[Lx _ j bm];exact Je bm
end
end Go.Proofs.YtaihldljnlgnoaaGreatDoor.V
