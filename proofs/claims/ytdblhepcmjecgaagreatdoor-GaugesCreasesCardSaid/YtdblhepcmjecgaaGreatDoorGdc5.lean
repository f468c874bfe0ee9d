/-
  Parts of the proof: N1 P7 A15 B0 A16 A1 A2 A3 P1 P2 A4 P4 A5 P3 P8 P9 C1 C2 A6 A7 P10 A8 A9 C3 Q1 Q3 C4 C5 C6 C7 Q4 A22 C8 A10 A11 A12a D1 A12 A13 D2 D3 A14 D4 A18. Conditions: none.
-/
import Derived.Test.YtdblhepcmjecgaaGreatDoorGdc3
import Derived.Test.YtdblhepcmjecgaaGreatDoorChecked
import Derived.Shelf.SlSortCmp.NoneTotal
import Derived.Shelf.Lay
import Derived.Ground.SlsfProg
import Derived.Shelf.SortM.Plain
import Derived.Shelf.SortM.SortNone
import Derived.Ground.SlgmProg
set_option maxRecDepth 100000
set_option maxHeartbeats 40000000
namespace Go.Proofs.YtdblhepcmjecgaaGreatDoor.V
open Go
abbrev b5w:FuncId:=18
def b48:Kon
 | []=>some (True,.bool true)
 |_=>none
theorem d7x(F:Fam)(dn:∀i,F.res i=.bool true)(bj:∀i,b2h (F.args i) (F.args i)):Law F (f5c F):=fun zs p s hk hp=>by
 unfold f5c at hk
 split at hk
 ·rename_i za
  obtain⟨i,hi,rfl⟩:=za
  cases hk
  exact⟨i,bj i,hi,(dn i).symm⟩
 ·cases hk
structure Cr where
 c:Int
 e:Int
 k:Int
 deriving DecidableEq
def d0:Cr:=⟨0,0,0⟩
def crSV(x:Cr):List SV:=[.int .i64 x.c,.int .u8 x.e,.int .u8 x.k]
def crOf:List SV→Cr
 | [.int _ a,.int _ b,.int _ c]=>⟨a,b,c⟩
 |_=>d0
def b20(l:List Cr)(i:Nat):List SV:=crSV (l.getD i d0)
def crL(n:Nat)(f:Nat→List SV):List Cr:=(List.range n).map fun i=>crOf (f i)
def d4p(n:Nat)(f:Nat→List SV):Prop:=∀i,i<n→f i=crSV (crOf (f i))
def f5z:SV→Option (Nat×(Nat→List SV))
 |.sl 3 n f _=>some (n,f)
 |.con (.slice none 0 0)=>some (0,fun _=>[])
 |_=>none
theorem b09(l:List Cr):d4p l.length (b20 l):=fun _ _=>rfl
theorem b32(n:Nat)(f:Nat→List SV):(crL n f).length=n:=by simp[crL]
theorem f7p{n:Nat}{f:Nat→List SV}(h:d4p n f):∀i,i<n→f i=b20 (crL n f) i:=by
 intro i hi
 rw[h i hi]
 simp[b20,crL,hi]
theorem b00(l:List Cr):crL l.length (b20 l)=l:=by
 apply L8
 intro i
 by_cases hi:i<l.length
 ·simp[crL,b20,hi,crSV,crOf]
 ·simp at hi;simp[crL,hi]
theorem b2p{s:SV}{sz n:Nat}{f:Nat→List SV}{c:Option Nat}(h:s.le0 (.sl sz n f c)):s.le2 (.sl sz n f c):=by
 cases s<;>exact h
theorem b8i{s:SV}{n:Nat}{f:Nat→List SV}(h:f5z s=some (n,f))(hf:d4p n f):SV.le0 s (.sl 3 (crL n f).length (b20 (crL n f)) none):=by
 unfold f5z at h
 split at h
 ·cases h
  simp only[SV.le0,b3q,b32,K5,Mp]
  exact d1p (f7p hf)
 ·cases h
  simp[SV.le0,crL,b3q]
 ·cases h
theorem f8h{sz n:Nat}{f:Nat→List SV}(c:Option Nat):SV.le0 (.sl sz n f c) (.sl sz n f none):=by
 simp only[SV.le0,b3q,K5,Mp]
 exact fun i hi=>.inl rfl
theorem f01(sz:Nat){f:Nat→List SV}:SV.le0 (.con (.slice none 0 0)) (.sl sz 0 f none):=by
 simp[SV.le0,b3q]
theorem b46{b n:Nat}(h:Nat.ble b 128=true)(hn:n*128≤140737488355328):n*b≤140737488355328:=
 L3 (Nat.mul_le_mul_left _ (Nat.le_of_ble_eq_true h)) hn
abbrev b96:FuncId:=84
def b8x:Kon
 | [.sl 1 n f _]=>some (n≤100000,.sl 1 n f (some n))
 | [.con (.slice none 0 0)]=>some (True,.sl 1 0 (fun _=>[]) (some 0))
 |_=>none
def g3f:Fam:=⟨Nat×(Nat→List SV),fun(n,f)=>[.sl 1 n f none],fun(n,_)=>n≤100000,fun(n,f)=>.sl 1 n f (some n)⟩
theorem d1n:PS b96 b8x:=by
 refine con [] Dv g3f (fun _ _=>none) b8x ?_ ?_ Go.Proofs.Tryz.func84 Du Du Du ?_
 ·intro args pre s h hp
  unfold b8x at h
  split at h
  ·rename_i n f c
   cases h
   exact By
  ·cases h
   exact C1
  ·cases h
 ·exact Bu
 ·rintro⟨n,f⟩ hp
  replace hp:n≤100000:=hp
  refine wlk _ ?_;(repeat' first|constructor|refine Iu fun hu=> ?_|intro h);all_goals refine Lm ?_
  all_goals(first
   |exact Ak
   |(show some ((n:Int)-0).toNat=some n;congr 1)
   |(intro i hi;congr 1;simp;done)
   |skip)
abbrev b8r:FuncId:=85
def b8c:Kon
 | [.sl 1 n f _]=>some (n≤100000,.sl 1 n f none)
 | [.con (.slice none 0 0)]=>some (True,.sl 1 0 (fun _=>[]) none)
 |_=>none
def g09:Fam:=⟨Nat×(Nat→List SV),fun(n,f)=>[.sl 1 n f none],fun(n,_)=>n≤100000,fun(n,f)=>.sl 1 n f none⟩
theorem d5q:PS b8r b8c:=by
 refine con [] Dv g09 (fun _ _=>none) b8c ?_ ?_ Go.Proofs.Tryz.func85 Du Du Du ?_
 ·intro args pre s h hp
  unfold b8c at h
  split at h
  ·rename_i n f c
   cases h
   exact By
  ·cases h
   exact C1
  ·cases h
 ·exact Bu
 ·rintro⟨n,f⟩ hp
  replace hp:n≤100000:=hp
  refine wlk _ ?_;(repeat' first|constructor|refine Iu fun hu=> ?_|intro h);all_goals refine Lm ?_
  all_goals(first
   |omega
   |exact Bb
   |(intro i hi;simp;done)
   |skip)
abbrev c2r:FuncId:=55
def b6t:Kon
 | [.sl 4 n f _]=>some (n≤100000,.sl 4 n f (some n))
 | [.con (.slice none 0 0)]=>some (True,.sl 4 0 (fun _=>[]) (some 0))
 |_=>none
def f3g:Fam:=⟨Nat×(Nat→List SV),fun(n,f)=>[.sl 4 n f none],fun(n,_)=>n≤100000,fun(n,f)=>.sl 4 n f (some n)⟩
theorem c9a:PS c2r b6t:=by
 refine con [] Dv f3g (fun _ _=>none) b6t ?_ ?_ Go.Proofs.Tryz.func55 Du Du Du ?_
 ·intro args pre s h hp
  unfold b6t at h
  split at h
  ·rename_i n f c
   cases h
   exact By
  ·cases h
   exact C1
  ·cases h
 ·exact Bu
 ·rintro⟨n,f⟩ hp
  replace hp:n≤100000:=hp
  refine wlk _ ?_;(repeat' first|constructor|refine Iu fun hu=> ?_|intro h);all_goals refine Lm ?_
  all_goals(first
   |exact Ak
   |(show some ((n:Int)-0).toNat=some n;congr 1)
   |(intro i hi;congr 1;simp;done)
   |skip)
abbrev c76:FuncId:=56
def b74:Kon
 | [.sl 4 n f _]=>some (n≤100000,.sl 4 n f none)
 | [.con (.slice none 0 0)]=>some (True,.sl 4 0 (fun _=>[]) none)
 |_=>none
def d75:Fam:=⟨Nat×(Nat→List SV),fun(n,f)=>[.sl 4 n f none],fun(n,_)=>n≤100000,fun(n,f)=>.sl 4 n f none⟩
theorem d7m:PS c76 b74:=by
 refine con [] Dv d75 (fun _ _=>none) b74 ?_ ?_ Go.Proofs.Tryz.func56 Du Du Du ?_
 ·intro args pre s h hp
  unfold b74 at h
  split at h
  ·rename_i n f c
   cases h
   exact By
  ·cases h
   exact C1
  ·cases h
 ·exact Bu
 ·rintro⟨n,f⟩ hp
  replace hp:n≤100000:=hp
  refine wlk _ ?_;(repeat' first|constructor|refine Iu fun hu=> ?_|intro h);all_goals refine Lm ?_
  all_goals(first
   |omega
   |exact Bb
   |(intro i hi;simp;done)
   |skip)
abbrev d4x:FuncId:=136
def c11:Kon
 | [.sl 2 n f _]=>some (n≤100000,.sl 2 n f (some n))
 | [.con (.slice none 0 0)]=>some (True,.sl 2 0 (fun _=>[]) (some 0))
 |_=>none
def f7h:Fam:=⟨Nat×(Nat→List SV),fun(n,f)=>[.sl 2 n f none],fun(n,_)=>n≤100000,fun(n,f)=>.sl 2 n f (some n)⟩
theorem f81:PS d4x c11:=by
 refine con [] Dv f7h (fun _ _=>none) c11 ?_ ?_ Go.Proofs.Tryz.func136 Du Du Du ?_
 ·intro args pre s h hp
  unfold c11 at h
  split at h
  ·rename_i n f c
   cases h
   exact By
  ·cases h
   exact C1
  ·cases h
 ·exact Bu
 ·rintro⟨n,f⟩ hp
  replace hp:n≤100000:=hp
  refine wlk _ ?_;(repeat' first|constructor|refine Iu fun hu=> ?_|intro h);all_goals refine Lm ?_
  all_goals(first
   |exact Ak
   |(show some ((n:Int)-0).toNat=some n;congr 1)
   |(intro i hi;congr 1;simp;done)
   |skip)
abbrev c6n:FuncId:=130
def b72:Kon
 | [.sl 3 n f _]=>some (n≤100000,.sl 3 n f (some n))
 | [.con (.slice none 0 0)]=>some (True,.sl 3 0 (fun _=>[]) (some 0))
 |_=>none
def d7v:Fam:=⟨Nat×(Nat→List SV),fun(n,f)=>[.sl 3 n f none],fun(n,_)=>n≤100000,fun(n,f)=>.sl 3 n f (some n)⟩
theorem d7j:PS c6n b72:=by
 refine con [] Dv d7v (fun _ _=>none) b72 ?_ ?_ Go.Proofs.Tryz.func130 Du Du Du ?_
 ·intro args pre s h hp
  unfold b72 at h
  split at h
  ·rename_i n f c
   cases h
   exact By
  ·cases h
   exact C1
  ·cases h
 ·exact Bu
 ·rintro⟨n,f⟩ hp
  replace hp:n≤100000:=hp
  refine wlk _ ?_;(repeat' first|constructor|refine Iu fun hu=> ?_|intro h);all_goals refine Lm ?_
  all_goals(first
   |exact Ak
   |(show some ((n:Int)-0).toNat=some n;congr 1)
   |(intro i hi;congr 1;simp;done)
   |skip)
abbrev d4d:FuncId:=179
def c25:Kon
 | [.sl 2 n f _]=>some (n≤100000,.sl 2 n f (some n))
 | [.con (.slice none 0 0)]=>some (True,.sl 2 0 (fun _=>[]) (some 0))
 |_=>none
def f83:Fam:=⟨Nat×(Nat→List SV),fun(n,f)=>[.sl 2 n f none],fun(n,_)=>n≤100000,fun(n,f)=>.sl 2 n f (some n)⟩
theorem f8r:PS d4d c25:=by
 refine con [] Dv f83 (fun _ _=>none) c25 ?_ ?_ Go.Proofs.Tryz.func179 Du Du Du ?_
 ·intro args pre s h hp
  unfold c25 at h
  split at h
  ·rename_i n f c
   cases h
   exact By
  ·cases h
   exact C1
  ·cases h
 ·exact Bu
 ·rintro⟨n,f⟩ hp
  replace hp:n≤100000:=hp
  refine wlk _ ?_;(repeat' first|constructor|refine Iu fun hu=> ?_|intro h);all_goals refine Lm ?_
  all_goals(first
   |exact Ak
   |(show some ((n:Int)-0).toNat=some n;congr 1)
   |(intro i hi;congr 1;simp;done)
   |skip)
abbrev d5s:FuncId:=181
def c1q:Kon
 | [.sl 3 n f _]=>some (n≤100000,.sl 3 n f (some n))
 | [.con (.slice none 0 0)]=>some (True,.sl 3 0 (fun _=>[]) (some 0))
 |_=>none
def f63:Fam:=⟨Nat×(Nat→List SV),fun(n,f)=>[.sl 3 n f none],fun(n,_)=>n≤100000,fun(n,f)=>.sl 3 n f (some n)⟩
theorem f9i:PS d5s c1q:=by
 refine con [] Dv f63 (fun _ _=>none) c1q ?_ ?_ Go.Proofs.Tryz.func181 Du Du Du ?_
 ·intro args pre s h hp
  unfold c1q at h
  split at h
  ·rename_i n f c
   cases h
   exact By
  ·cases h
   exact C1
  ·cases h
 ·exact Bu
 ·rintro⟨n,f⟩ hp
  replace hp:n≤100000:=hp
  refine wlk _ ?_;(repeat' first|constructor|refine Iu fun hu=> ?_|intro h);all_goals refine Lm ?_
  all_goals(first
   |exact Ak
   |(show some ((n:Int)-0).toNat=some n;congr 1)
   |(intro i hi;congr 1;simp;done)
   |skip)
structure RT (α:Type)where
 sz:Nat
 sv:α→List SV
 of:List SV→α
 d:α
 ok:∀x,of (sv x)=x
def RT.row{α:Type}(R:RT α)(l:List α)(i:Nat):List SV:=R.sv (l.getD i R.d)
def RT.lst{α:Type}(R:RT α)(n:Nat)(f:Nat→List SV):List α:=(List.range n).map fun i=>R.of (f i)
def RT.is{α:Type}(R:RT α)(n:Nat)(f:Nat→List SV):Prop:=∀i,i<n→f i=R.sv (R.of (f i))
theorem RT.is_row{α:Type}(R:RT α)(l:List α):R.is l.length (R.row l):=fun i _=>by simp only[RT.row,R.ok]
theorem RT.lst_length{α:Type}(R:RT α)(n:Nat)(f:Nat→List SV):(R.lst n f).length=n:=by simp[RT.lst]
theorem RT.row_lst{α:Type}(R:RT α){n:Nat}{f:Nat→List SV}(h:R.is n f):∀i,i<n→f i=R.row (R.lst n f) i:=by
 intro i hi
 rw[h i hi]
 simp[RT.row,RT.lst,hi]
theorem RT.lst_row{α:Type}(R:RT α)(l:List α):R.lst l.length (R.row l)=l:=by
 apply L8
 intro i
 by_cases hi:i<l.length
 ·simp[RT.lst,RT.row,hi,R.ok]
 ·simp at hi;simp[RT.lst,hi]
def RT.as{α:Type}(R:RT α):SV→Option (Nat×(Nat→List SV))
 |.sl sz n f _=>if sz=R.sz then some (n,f)else none
 |.con (.slice none 0 0)=>some (0,fun _=>[])
 |_=>none
theorem RT.as_le{α:Type}(R:RT α){s:SV}{n:Nat}{f:Nat→List SV}(h:R.as s=some (n,f))(hf:R.is n f):SV.le0 s (.sl R.sz (R.lst n f).length (R.row (R.lst n f)) none):=by
 unfold RT.as at h
 split at h
 ·split at h
  ·rename_i hz
   cases h
   simp only[SV.le0,b3q,RT.lst_length,hz,Mp]
   exact⟨Ix,d1p (R.row_lst hf)⟩
  ·cases h
 ·cases h
  simp[SV.le0,RT.lst,b3q]
 ·cases h
structure Mv where
 t:Int
 x:Int
 y:Int
 deriving DecidableEq
def mvR:RT Mv:=⟨3,fun m=>[.int .u8 m.t,.int .i64 m.x,.int .i64 m.y],fun l=>match l with
 | [.int _ a,.int _ b,.int _ c]=>⟨a,b,c⟩
 |_=>⟨0,0,0⟩,⟨0,0,0⟩,fun _=>rfl⟩
def b04:RT Int:=⟨1,fun n=>[.int .i64 n],fun l=>match l with
 | [.int _ a]=>a
 |_=>0,0,fun _=>rfl⟩
def b1x:RT Bool:=⟨1,fun b=>[.bool b],fun l=>match l with
 | [.bool b]=>b
 |_=>false,false,fun _=>rfl⟩
theorem b8n{α:Type}(R:RT α){l:List α}{n j:Nat}{m:α}(h:n<l.length)(e:j=n):R.row (l.set n m) j=R.sv m:=by
 subst e
 simp[RT.row,h]
theorem c2p{α:Type}(R:RT α){l:List α}{n j:Nat}{m:α}(e:¬j=n):R.row (l.set n m) j=R.row l j:=by
 simp only[RT.row,It,Jb (Ne.symm e)]
theorem b8g{α:Type}(R:RT α){l r:List α}{j:Nat}(h:j<l.length):R.row (l++r) j=R.row l j:=by
 simp only[RT.row,It,J6 h]
theorem b87{α:Type}(R:RT α){l:List α}{x:α}:R.row (l++[x]) l.length=R.sv x:=by
 simp[RT.row]
theorem g4x{α:Type}(R:RT α)(x:α)(r:List α)(j:Nat):R.row (x::r) (1+j)=R.row r j:=by
 rw[Nat.add_comm];rfl
theorem c34{b:Nat}{n:Int}(h:Nat.ble b 128=true)(h0:0≤n)(hn:128*n≤281474976710656):(b:Int)*n≤281474976710656:=by
 have:b≤128:=Nat.le_of_ble_eq_true h
 exact Int.le_trans (Int.mul_le_mul_of_nonneg_right Dt h0) hn
def upto{α:Type}(A B:Nat→α)(i j:Nat):α:=if j<i then A j else B j
theorem b6h{α:Type}(R:RT α)(hT:∀a b,b9m true (R.sv a) (R.sv b)=R.sv a)(hF:∀a b,b9m false (R.sv a) (R.sv b)=R.sv b)(A B:Nat→α)(i j:Nat):
 b9m (decide (j=i)) (R.sv (A i)) (R.sv (upto A B i j))=R.sv (upto A B (i+1) j):=by
 by_cases e:j=i
 ·subst e
  rw[Jw rfl,hT]
  simp[upto]
 ·rw[Jq e,hF]
  by_cases h:j<i
  ·simp[upto,h,show j<i+1 from Dt]
  ·simp[upto,h,show¬j<i+1 from Dt]
theorem c1s{α:Type}(A B:Nat→α)(j:Nat):upto A B 0 j=B j:=by simp[upto]
theorem b9z{α:Type}(A B:Nat→α){i j:Nat}(h:j<i):upto A B i j=A j:=by simp[upto,h]
theorem c7u{α:Type}(A B:Nat→α){i j:Nat}(h:i≤j):upto A B i j=B j:=by simp[upto,show¬j<i from Dt]
def b6e(f:Nat→Int):Nat→Nat→Int
 |0,_=>0
 |n+1,i=>if f i=0 then b6e f n (i+1)else f i
theorem c5j{f:Nat→Int}:∀{n i:Nat},b6e f n i=0→∀j,i≤j→j<i+n→f j=0
 |0,i,_,j,h1,h2=>Dt
 |n+1,i,h,j,h1,h2=>by
  simp only[b6e]at h
  split at h
  ·rename_i h0
   by_cases e:j=i
   ·rw[e];exact h0
   ·exact c5j h j Dt Dt
  ·rename_i h0;exact absurd h h0
structure Cl where
 x:Int
 y:Int
 q:Int
 deriving DecidableEq
def clR:RT Cl:=⟨3,fun c=>[.int .i64 c.x,.int .i64 c.y,.int .u8 c.q],fun l=>match l with
 | [.int _ a,.int _ b,.int _ c]=>⟨a,b,c⟩
 |_=>⟨0,0,0⟩,⟨0,0,0⟩,fun _=>rfl⟩
structure Stk where
 c:Cl
 l:List Int
 deriving DecidableEq
def stOf:List SV→Stk
 | [.int _ a,.int _ b,.int _ c,s]=>⟨⟨a,b,c⟩,match b04.as s with|some (n,f)=>b04.lst n f|none=>[]⟩
 |_=>⟨⟨0,0,0⟩,[]⟩
def stR:RT Stk:=⟨4,fun s=>[.int .i64 s.c.x,.int .i64 s.c.y,.int .u8 s.c.q,.sl 1 s.l.length (b04.row s.l) none],stOf,⟨⟨0,0,0⟩,[]⟩,fun s=>by
 have:b04.lst s.l.length (b04.row s.l)=s.l:=RT.lst_row _ _
 show stOf [.int .i64 s.c.x,.int .i64 s.c.y,.int .u8 s.c.q,.sl 1 s.l.length (b04.row s.l) none]=s
 have h:b04.as (.sl 1 s.l.length (b04.row s.l) none)=some (s.l.length,b04.row s.l):=rfl
 simp only[stOf,h,this]⟩
def RT.isL{α:Type}(R:RT α)(n:Nat)(f:Nat→List SV):Prop:=∀i,i<n→d0g (f i) (R.sv (R.of (f i)))
theorem RT.isL_row{α:Type}(R:RT α)(l:List α):R.isL l.length (R.row l):=fun i _=>.inl (by simp only[RT.row,R.ok])
theorem RT.as_leL{α:Type}(R:RT α){s:SV}{n:Nat}{f:Nat→List SV}(h:R.as s=some (n,f))(hf:R.isL n f):SV.le0 s (.sl R.sz (R.lst n f).length (R.row (R.lst n f)) none):=by
 unfold RT.as at h
 split at h
 ·split at h
  ·rename_i hz
   cases h
   simp only[SV.le0,b3q,RT.lst_length,hz,Mp]
   refine⟨Ix,fun i hi=> ?_⟩
   have:=hf i hi
   have e:R.row (R.lst n f) i=R.sv (R.of (f i)):=Hw
   rw[e]
   exact this
  ·cases h
 ·cases h
  simp[SV.le0,RT.lst,b3q]
 ·cases h
def b4g(l:List Int)(v:Int):Int:=match l.findIdx? (fun x=>decide (x=v))with
 |some i=>i
 |none=> -1
theorem f02{l:List Int}{v:Int}{i:Nat}(hi:i<l.length)(h:∀j,j<i→l.getD j 0≠v)(hv:l.getD i 0=v):b4g l v=i:=by
 have:l.findIdx? (fun x=>decide (x=v))=some i:=by
  rw[K0]
  refine⟨hi,?_,fun j hj=> ?_⟩
  ·simpa[It,hi]using hv
  ·have:=h j hj
   have bh:j<l.length:=Dt
   simpa[It,bh]using this
 simp[b4g,this]
theorem d57{l:List Int}{v:Int}(h:∀j,j<l.length→l.getD j 0≠v):b4g l v= -1:=by
 have:l.findIdx? (fun x=>decide (x=v))=none:=by
  rw[Kh]
  intro x hx
  obtain⟨j,hj,rfl⟩:=Jg.1 hx
  have:=h j hj
  simpa[It,hj]using this
 simp[b4g,this]
abbrev d6n:FuncId:=73
def c77:Kon
 | [x,.int .i64 v]=>match b04.as x with
   |some (n,f)=>some (b04.isL n f∧n≤100000,.int .i64 (b4g (b04.lst n f) v))
   |none=>none
 |_=>none
def f7j:Fam:=⟨List Int×Int,fun(l,v)=>[.sl 1 l.length (b04.row l) none,.int .i64 v],fun(l,_)=>l.length≤100000,fun(l,v)=>.int .i64 (b4g l v)⟩
def j11:List Int×Int→Nat→Option Inv
 |(l,v),2=>some {β:=Nat,ok:=fun i=>i≤l.length∧∀j,j<i→l.getD j 0≠v,st:=fun i=>⟨[⟨8,none,.int .i64 i⟩,⟨7,none,.int .i64 l.length⟩,⟨1,none,.int .i64 v⟩,⟨0,none,.sl 1 l.length (b04.row l) none⟩],[]⟩,μ:=fun i=>l.length-i}
 |_,_=>none
theorem f7f:PS d6n c77:=by
 refine con [] Dv f7j j11 c77 ?_ ?_ Go.Proofs.Tryz.func73 Du Du Du ?_
 ·intro args pre s h hp
  unfold c77 at h
  split at h
  ·split at h
   ·rename_i n f hx
    cases h
    exact⟨(b04.lst n f,_),⟨b2p (b04.as_leL hx hp.1),E3,Ix⟩,by simp only[f7j,RT.lst_length];exact hp.2,rfl⟩
   ·cases h
  ·cases h
 ·exact Bv
 ·rintro⟨l,v⟩ hp
  replace hp:l.length≤100000:=hp
  refine wlk _ ?_;(repeat' first|constructor|refine Iu fun hu=> ?_|intro h);all_goals refine Lm ?_
  refine⟨(0:Nat),⟨J5 _,fun j hj=>Dt⟩,?_,?_⟩
  ·refine wlk _ ?_;(repeat' first|constructor|refine Iu fun hu=> ?_|intro h);all_goals refine Lm ?_
   all_goals first|exact A5|skip
  ·intro i hi
   obtain⟨cw,be⟩:=hi
   refine wlk _ ?_;(repeat' first|constructor|refine Iu fun hu=> ?_|intro h);all_goals refine Lm ?_
   all_goals(try simp only[I8]at*)
   all_goals(first
    |exact An
    |(refine(f02 Dt be ?_).symm;exact(by assumption:v=l.getD i b04.d).symm)
    |(refine⟨i+1,⟨Dt,fun j hj=> ?_⟩,E6,?_⟩)
    |(refine(d57 fun j hj=> ?_).symm;exact be j Dt)
    |skip)
   ·by_cases e:j<i
    ·exact be j e
    ·have:j=i:=Dt
     subst this
     have q:¬v=l.getD j b04.d:=Dx
     exact fun e=>q e.symm
   ·refine wlk _ ?_;(repeat' first|constructor|refine Iu fun hu=> ?_|intro h);all_goals refine Lm ?_
    all_goals first|exact Aq|skip
abbrev c32:FuncId:=51
def c7s:Kon
 | [.agg [.int .i64 a,.int .i64 b,.int .u8 c,x]]=>match b04.as x with
   |some (n,f)=>some (b04.isL n f∧n≤100000,.agg [.int .i64 a,.int .i64 b,.int .u8 c,.sl 1 (b04.lst n f).length (b04.row (b04.lst n f)) (some (b04.lst n f).length)])
   |none=>none
 |_=>none
def f6s:Fam:=⟨Stk,fun s=>[.agg [.int .i64 s.c.x,.int .i64 s.c.y,.int .u8 s.c.q,.sl 1 s.l.length (b04.row s.l) none]],fun s=>s.l.length≤100000,fun s=>.agg [.int .i64 s.c.x,.int .i64 s.c.y,.int .u8 s.c.q,.sl 1 s.l.length (b04.row s.l) (some s.l.length)]⟩
theorem f77:PS c32 c7s:=by
 refine con [(b8r,b8c),(b96,b8x)] (by simpa using⟨d5q,d1n⟩) f6s (fun _ _=>none) c7s ?_ ?_ Go.Proofs.Tryz.func51 Du Du Du ?_
 ·intro args pre s h hp
  unfold c7s at h
  split at h
  ·split at h
   ·rename_i a b c y q n f hx
    cases h
    exact⟨⟨⟨a,b,c⟩,b04.lst n f⟩,⟨⟨Dz,Dz,Dz,b04.as_leL hx hp.1,Ix⟩,Ix⟩,by simp only[f6s,RT.lst_length];exact hp.2,rfl⟩
   ·cases h
  ·cases h
 ·exact Bu
 ·rintro s hp
  replace hp:s.l.length≤100000:=hp
  refine wlk _ ?_;(repeat' first|constructor|refine Iu fun hu=> ?_|intro h);all_goals refine Lm ?_
  all_goals first|exact Aq|skip
def d2w(x:SV):Option (Prop×List Stk):=(stR.as x).map fun q=>(stR.isL q.1 q.2∧q.1≤100000∧∀s∈stR.lst q.1 q.2,s.l.length≤100000,stR.lst q.1 q.2)
def b2y(L:List Stk):Prop:=L.length≤100000∧∀s∈L,s.l.length≤100000
def b7u(L:List Stk):SV:=.sl 4 L.length (stR.row L) none
theorem b4j{x:SV}{q:Prop}{L:List Stk}(h:d2w x=some (q,L))(hq:q):x.le2 (b7u L)∧b2y L:=by
 unfold d2w at h
 simp only[Ia]at h
 obtain⟨⟨n,f⟩,hx,rfl,rfl⟩:=h
 exact⟨b2p (stR.as_leL hx hq.1),Gz,hq.2.2⟩
theorem b2i(L:List Stk)(h:b2y L):stR.isL L.length (stR.row L)∧L.length≤100000∧∀s∈L,s.l.length≤100000:=⟨stR.isL_row L,h⟩
theorem b05(L:List Stk):stR.lst L.length (stR.row L)=L:=RT.lst_row stR L
theorem b45{L:List Stk}(h:b2y L)(i:Nat):(L.getD i stR.d).l.length≤100000:=by
 rw[It]
 cases hg:L[i]? with
 |none=>show 0≤_;omega
 |some s=>exact h.2 s (J0 hg)
def f0z(L:List Stk)(c:Cl):List Int:=match L.find? (fun s=>decide (s.c=c))with
 |some s=>s.l
 |none=>[]
theorem f20{L:List Stk}{c:Cl}{i:Nat}(hi:i<L.length)(h:∀j,j<i→(L.getD j stR.d).c≠c)(hc:(L.getD i stR.d).c=c):f0z L c=(L.getD i stR.d).l:=by
 have:L.find? (fun s=>decide (s.c=c))=some (L.getD i stR.d):=by
  rw[List.find?_eq_some_iff_getElem]
  refine⟨Ei,i,hi,Gy,fun j hj=> ?_⟩
  have:=h j hj
  have bh:j<L.length:=Dt
  simpa[It,bh]using this
 simp[f0z,this]
theorem g12{L:List Stk}{c:Cl}(h:∀j,j<L.length→(L.getD j stR.d).c≠c):f0z L c=[]:=by
 have:L.find? (fun s=>decide (s.c=c))=none:=by
  rw[List.find?_eq_none]
  intro s hs
  obtain⟨j,hj,rfl⟩:=Jg.1 hs
  have:=h j hj
  simpa[It,hj]using this
 simp[f0z,this]
theorem clEq(a b:Cl):(decide (a.x=b.x)&&(decide (a.y=b.y)&&(decide (a.q=b.q)&&true)))=decide (a=b):=by
 cases a;cases b
 simp[Bool.decide_and]
abbrev nStAt:FuncId:=110
def g4v:Kon
 | [x,.agg [.int .i64 a,.int .i64 b,.int .u8 c]]=>(d2w x).map fun q=>(q.1,.sl 1 (f0z q.2 ⟨a,b,c⟩).length (b04.row (f0z q.2 ⟨a,b,c⟩)) none)
 |_=>none
def FStAt:Fam:=⟨List Stk×Cl,fun(L,c)=>[b7u L,.agg [.int .i64 c.x,.int .i64 c.y,.int .u8 c.q]],fun(L,_)=>b2y L,fun(L,c)=>.sl 1 (f0z L c).length (b04.row (f0z L c)) none⟩
def IStAt:List Stk×Cl→Nat→Option Inv
 |(L,c),2=>some {β:=Nat,ok:=fun i=>i≤L.length∧∀j,j<i→(L.getD j stR.d).c≠c,st:=fun i=>⟨[⟨9,none,.int .i64 i⟩,⟨8,none,.int .i64 L.length⟩,⟨7,none,b7u L⟩,⟨3,none,.own 0 0⟩],[.cells 54 [.int .i64 c.x,.int .i64 c.y,.int .u8 c.q]]⟩,μ:=fun i=>L.length-i}
 |_,_=>none
theorem pStAt:PS nStAt g4v:=by
 refine con [(b8r,b8c),(b96,b8x)] (by simpa using⟨d5q,d1n⟩) FStAt IStAt g4v ?_ ?_ Go.Proofs.Tryz.func110 Du Du Du ?_
 ·intro args pre s h hp
  unfold g4v at h
  split at h
  ·rename_i x a b c
   simp only[Ia]at h
   obtain⟨⟨q,L⟩,hx,rfl,rfl⟩:=h
   obtain⟨h1,h2⟩:=b4j hx hp
   exact⟨(L,⟨a,b,c⟩),⟨h1,E8,Ix⟩,h2,rfl⟩
  ·cases h
 ·exact Bv
 ·rintro⟨L,c⟩ hp
  replace hp:b2y L:=hp
  refine wlk _ ?_;(repeat' first|constructor|refine Iu fun hu=> ?_|intro h);all_goals refine Lm ?_
  refine⟨(0:Nat),⟨J5 _,fun j hj=>Dt⟩,?_,?_⟩
  ·refine wlk _ ?_;(repeat' first|constructor|refine Iu fun hu=> ?_|intro h);all_goals refine Lm ?_
   all_goals first|exact A5|skip
  ·intro i hi
   obtain⟨cw,be⟩:=hi
   have hg:=b45 hp i
   have hl:=hp.1
   refine wlk _ ?_;(repeat' first|constructor|refine Iu fun hu=> ?_|intro h);all_goals refine Lm ?_
   all_goals(try simp only[I8,clEq]at*)
   all_goals(first
    |exact An
    |(rw[f20 Dt be Dx];done)
    |(intro j hj;rw[f20 Dt be Dx];done)
    |(refine⟨i+1,⟨Dt,fun j hj=> ?_⟩,E6,?_⟩)
    |(rw[g12 fun j hj=>be j Dt];rfl)
    |skip)
   ·by_cases e:j<i
    ·exact be j e
    ·have:j=i:=Dt
     subst this
     assumption
   ·refine wlk _ ?_;(repeat' first|constructor|refine Iu fun hu=> ?_|intro h);all_goals refine Lm ?_
    all_goals first|exact Aq|skip
def f42(L:List Stk)(v:Int):Option (Cl×Int):=(L.find? fun s=>decide (0≤b4g s.l v)).map fun s=>(s.c,b4g s.l v)
def g2h(L:List Stk)(v:Int):Cl:=((f42 L v).map (·.1)).getD ⟨0,0,0⟩
def d61(L:List Stk)(v:Int):Int:=((f42 L v).map (·.2)).getD 0
def finE(L:List Stk)(v:Int):Int:=if(f42 L v).isSome then 0 else 7
theorem f1p{L:List Stk}{v:Int}{i:Nat}(hi:i<L.length)(h:∀j,j<i→b4g (L.getD j stR.d).l v<0)(hc:0≤b4g (L.getD i stR.d).l v):f42 L v=some ((L.getD i stR.d).c,b4g (L.getD i stR.d).l v):=by
 have:L.find? (fun s=>decide (0≤b4g s.l v))=some (L.getD i stR.d):=by
  rw[List.find?_eq_some_iff_getElem]
  refine⟨Ei,i,hi,Gy,fun j hj=> ?_⟩
  have:=h j hj
  have bh:j<L.length:=Dt
  simpa[It,bh]using this
 simp[f42,this]
theorem d3x{L:List Stk}{v:Int}(h:∀j,j<L.length→b4g (L.getD j stR.d).l v<0):f42 L v=none:=by
 have:L.find? (fun s=>decide (0≤b4g s.l v))=none:=by
  rw[List.find?_eq_none]
  intro s hs
  obtain⟨j,hj,rfl⟩:=Jg.1 hs
  have:=h j hj
  simpa[It,hj]using this
 simp[f42,this]
def b08(k C:Int):Int:=if 1≤k∧k≤4∧ -4096≤C∧C≤4096 then 0 else 1
abbrev b9c:FuncId:=99
def b5v:Kon
 | [.agg [.int .u8 k,.int .i64 C]]=>some (True,.int .i64 (b08 k C))
 |_=>none
def d94:Fam:=⟨Int×Int,fun(k,C)=>[.agg [.int .u8 k,.int .i64 C]],fun(_,_)=>True,fun(k,C)=>.int .i64 (b08 k C)⟩
theorem c2a:PS b9c b5v:=by
 refine con [] Dv d94 (fun _ _=>none) b5v ?_ ?_ Go.Proofs.Tryz.func99 Du Du Du ?_
 ·intro args pre s h hp
  unfold b5v at h
  split at h
  ·rename_i k C;cases h;exact⟨(k,C),by simp[d94,b2h,SV.le2,SV.le1,b24,SV.le0],hp,rfl⟩
  ·cases h
 ·exact Bu
 ·rintro⟨k,C⟩ hp
  replace hp:True:=hp
  refine wlk _ ?_;(repeat' first|constructor|refine Iu fun hu=> ?_|intro h);all_goals refine Lm ?_
  all_goals(simp[b08]at h⊢;omega)
def b7v(x y:Int):Int:=if -65536≤x∧x≤65536∧ -65536≤y∧y≤65536 then 0 else 1
abbrev d23:FuncId:=223
def c24:Kon
 | [.agg [.int .i64 x,.int .i64 y]]=>some (True,.int .i64 (b7v x y))
 |_=>none
def d9u:Fam:=⟨Int×Int,fun(x,y)=>[.agg [.int .i64 x,.int .i64 y]],fun(_,_)=>True,fun(x,y)=>.int .i64 (b7v x y)⟩
theorem f15:PS d23 c24:=by
 refine con [] Dv d9u (fun _ _=>none) c24 ?_ ?_ Go.Proofs.Tryz.func223 Du Du Du ?_
 ·intro args pre s h hp
  unfold c24 at h
  split at h
  ·rename_i x y;cases h;exact⟨(x,y),by simp[d9u,b2h,SV.le2,SV.le1,b24,SV.le0],hp,rfl⟩
  ·cases h
 ·exact Bu
 ·rintro⟨x,y⟩ hp
  replace hp:True:=hp
  refine wlk _ ?_;(repeat' first|constructor|refine Iu fun hu=> ?_|intro h);all_goals refine Lm ?_
  all_goals(simp[b7v]at h⊢;omega)
def b6j(k x y:Int):Int:=if k=1 then x else if k=2 then y else if k=3 then x+y else y-x
abbrev d52:FuncId:=274
def c5z:Kon
 | [.int .u8 k,.agg [.int .i64 x,.int .i64 y]]=>some (inK .i64 (x+y)∧inK .i64 (y-x),.int .i64 (b6j k x y))
 |_=>none
def g93:Fam:=⟨Int×Int×Int,fun(k,x,y)=>[.int .u8 k,.agg [.int .i64 x,.int .i64 y]],fun(_,x,y)=>inK .i64 (x+y)∧inK .i64 (y-x),fun(k,x,y)=>.int .i64 (b6j k x y)⟩
theorem pAlong:PS d52 c5z:=by
 refine con [] Dv g93 (fun _ _=>none) c5z ?_ ?_ Go.Proofs.Tryz.func274 Du Du Du ?_
 ·intro args pre s h hp
  unfold c5z at h
  split at h
  ·rename_i k x y;cases h;exact⟨(k,x,y),by simp[g93,b2h,SV.le2,SV.le1,b24,SV.le0],hp,rfl⟩
  ·cases h
 ·exact Bv
 ·rintro⟨k,x,y⟩ hp
  replace hp:inK .i64 (x+y)∧inK .i64 (y-x):=hp
  refine wlk _ ?_;(repeat' first|constructor|refine Iu fun hu=> ?_|intro h);all_goals refine Lm ?_
  all_goals(first|exact hp.1|exact hp.2|(simp at*;simp[b6j, *];done))
abbrev nRl1:FuncId:=273
def kRl1:Kon
 | [.agg [.int .i64 x,.int .i64 y]]=>some (inK .i64 (x+y)∧inK .i64 (y-x),.int .i64 (b6j 1 x y))
 |_=>none
def FRl1:Fam:=⟨Int×Int,fun(x,y)=>[.agg [.int .i64 x,.int .i64 y]],fun(x,y)=>inK .i64 (x+y)∧inK .i64 (y-x),fun(x,y)=>.int .i64 (b6j 1 x y)⟩
theorem pRl1:PS nRl1 kRl1:=by
 refine con [(d52,c5z)] Gb FRl1 (fun _ _=>none) kRl1 ?_ ?_ Go.Proofs.Tryz.func273 Du Du Du ?_
 ·intro args pre s h hp
  unfold kRl1 at h
  split at h
  ·rename_i x y;cases h;exact⟨(x,y),by simp[FRl1,b2h,SV.le2,SV.le1,b24,SV.le0],hp,rfl⟩
  ·cases h
 ·exact Bu
 ·rintro⟨x,y⟩ hp
  replace hp:inK .i64 (x+y)∧inK .i64 (y-x):=hp
  refine wlk _ ?_;(repeat' first|constructor|refine Iu fun hu=> ?_|intro h);all_goals refine Lm ?_
  all_goals exact hp
abbrev nRl4:FuncId:=277
def kRl4:Kon
 | [.agg [.int .i64 x,.int .i64 y]]=>some (inK .i64 (x+y)∧inK .i64 (y-x),.int .i64 (b6j 2 x y))
 |_=>none
def FRl4:Fam:=⟨Int×Int,fun(x,y)=>[.agg [.int .i64 x,.int .i64 y]],fun(x,y)=>inK .i64 (x+y)∧inK .i64 (y-x),fun(x,y)=>.int .i64 (b6j 2 x y)⟩
theorem pRl4:PS nRl4 kRl4:=by
 refine con [(d52,c5z)] Gb FRl4 (fun _ _=>none) kRl4 ?_ ?_ Go.Proofs.Tryz.func277 Du Du Du ?_
 ·intro args pre s h hp
  unfold kRl4 at h
  split at h
  ·rename_i x y;cases h;exact⟨(x,y),by simp[FRl4,b2h,SV.le2,SV.le1,b24,SV.le0],hp,rfl⟩
  ·cases h
 ·exact Bu
 ·rintro⟨x,y⟩ hp
  replace hp:inK .i64 (x+y)∧inK .i64 (y-x):=hp
  refine wlk _ ?_;(repeat' first|constructor|refine Iu fun hu=> ?_|intro h);all_goals refine Lm ?_
  all_goals exact hp
abbrev nRl7:FuncId:=280
def kRl7:Kon
 | [.agg [.int .i64 x,.int .i64 y]]=>some (inK .i64 (x+y)∧inK .i64 (y-x),.int .i64 (b6j 3 x y))
 |_=>none
def FRl7:Fam:=⟨Int×Int,fun(x,y)=>[.agg [.int .i64 x,.int .i64 y]],fun(x,y)=>inK .i64 (x+y)∧inK .i64 (y-x),fun(x,y)=>.int .i64 (b6j 3 x y)⟩
theorem pRl7:PS nRl7 kRl7:=by
 refine con [(d52,c5z)] Gb FRl7 (fun _ _=>none) kRl7 ?_ ?_ Go.Proofs.Tryz.func280 Du Du Du ?_
 ·intro args pre s h hp
  unfold kRl7 at h
  split at h
  ·rename_i x y;cases h;exact⟨(x,y),by simp[FRl7,b2h,SV.le2,SV.le1,b24,SV.le0],hp,rfl⟩
  ·cases h
 ·exact Bu
 ·rintro⟨x,y⟩ hp
  replace hp:inK .i64 (x+y)∧inK .i64 (y-x):=hp
  refine wlk _ ?_;(repeat' first|constructor|refine Iu fun hu=> ?_|intro h);all_goals refine Lm ?_
  all_goals exact hp
abbrev nRl10:FuncId:=283
def g4i:Kon
 | [.agg [.int .i64 x,.int .i64 y]]=>some (inK .i64 (x+y)∧inK .i64 (y-x),.int .i64 (b6j 4 x y))
 |_=>none
def FRl10:Fam:=⟨Int×Int,fun(x,y)=>[.agg [.int .i64 x,.int .i64 y]],fun(x,y)=>inK .i64 (x+y)∧inK .i64 (y-x),fun(x,y)=>.int .i64 (b6j 4 x y)⟩
theorem pRl10:PS nRl10 g4i:=by
 refine con [(d52,c5z)] Gb FRl10 (fun _ _=>none) g4i ?_ ?_ Go.Proofs.Tryz.func283 Du Du Du ?_
 ·intro args pre s h hp
  unfold g4i at h
  split at h
  ·rename_i x y;cases h;exact⟨(x,y),by simp[FRl10,b2h,SV.le2,SV.le1,b24,SV.le0],hp,rfl⟩
  ·cases h
 ·exact Bu
 ·rintro⟨x,y⟩ hp
  replace hp:inK .i64 (x+y)∧inK .i64 (y-x):=hp
  refine wlk _ ?_;(repeat' first|constructor|refine Iu fun hu=> ?_|intro h);all_goals refine Lm ?_
  all_goals exact hp
def f68:List SV:=[.con .nilFunc,.con .nilFunc,.con .nilFunc,.clo 273 [],.clo 275 [],.any,.clo 277 [],.clo 278 [],.any,.clo 280 [],.clo 281 [],.any,.clo 283 [],.clo 284 [],.any]
abbrev g9p:FuncId:=224
def d9r:Kon
 | []=>some (True,.agg f68)
 |_=>none
def FRules:Fam:=⟨Unit,fun _=>[],fun _=>True,fun _=>.agg f68⟩
theorem pRules:PS g9p d9r:=by
 refine con [] Dv FRules (fun _ _=>none) d9r ?_ ?_ Go.Proofs.Tryz.func224 Du Du Du ?_
 ·intro args pre s h hp
  unfold d9r at h
  split at h
  ·cases h;exact⟨(),Ix,Ix,rfl⟩
  ·cases h
 ·exact Cb
 ·intro i hp
  refine wlk _ ?_;(repeat' first|constructor|refine Iu fun hu=> ?_|intro h);all_goals refine Lm ?_
  all_goals rfl
def d25(k C x y:Int):Int:=if b08 k C=0∧b7v x y=0 then(if b6j k x y<2*C then -1 else if 2*C<b6j k x y then 1 else 0)else 0
theorem b6k{k C:Int}(h:b08 k C=0):1≤k∧k≤4∧ -4096≤C∧C≤4096:=by
 unfold b08 at h
 split at h
 ·assumption
 ·cases h
theorem c9h{x y:Int}(h:b7v x y=0): -65536≤x∧x≤65536∧ -65536≤y∧y≤65536:=by
 unfold b7v at h
 split at h
 ·assumption
 ·cases h
theorem d93{x y:Int}(h:b7v x y=0):inK .i64 (x+y)∧inK .i64 (y-x):=by
 have:=c9h h
 constructor<;>simp only[inK]<;>omega
abbrev f64:FuncId:=187
def d0t:Kon
 | [.agg [.int .u8 k,.int .i64 C],.agg [.int .i64 x,.int .i64 y]]=>some (1≤k∧k≤4,.int .i64 (d25 k C x y))
 |_=>none
def f6e:Fam:=⟨Int×Int×Int×Int,fun(k,C,x,y)=>[.agg [.int .u8 k,.int .i64 C],.agg [.int .i64 x,.int .i64 y]],fun(k,_,_,_)=>1≤k∧k≤4,fun(k,C,x,y)=>.int .i64 (d25 k C x y)⟩
theorem j5j:PS f64 d0t:=by
 refine con [(b9c,b5v),(d23,c24),(g9p,d9r),(nRl1,kRl1),(nRl4,kRl4),(nRl7,kRl7),(nRl10,g4i)] (by simpa using⟨c2a,f15,pRules,pRl1,pRl4,pRl7,pRl10⟩) f6e (fun _ _=>none) d0t ?_ ?_ Go.Proofs.Tryz.func187 Du Du Du ?_
 ·intro args pre s h hp
  unfold d0t at h
  split at h
  ·rename_i k C x y;cases h;exact⟨(k,C,x,y),by simp[f6e,b2h,SV.le2,SV.le1,b24,SV.le0],hp,rfl⟩
  ·cases h
 ·exact Bv
 ·rintro⟨k,C,x,y⟩ hp
  replace hp:1≤k∧k≤4:=hp
  have hk:k=1∨k=2∨k=3∨k=4:=Dt
  rcases hk with rfl|rfl|rfl|rfl
  all_goals clear hp
  all_goals refine wlk _ ?_;(repeat' first|constructor|refine Iu fun hu=> ?_|intro h);all_goals refine Lm ?_
  all_goals(try omega)
  all_goals(try simp only[Jy,Ka,I9,Ie]at*)
  all_goals(first
   |(rename_i h0;exact d93 h0.2)
   |exact d93 h.2
   |(have:=b6k h.1;simp only[inK];omega)
   |(rename_i h0;have:=b6k h0.1;simp only[inK];omega)
   |(rename_i h0 _;have:=b6k h0.1;simp only[inK];omega)
   |(unfold d25;rw[if_neg Dt])
   |(rename_i h0;unfold d25;rw[if_pos h0,if_pos Dt])
   |(rename_i h1 h0;unfold d25;rw[if_pos h1,if_neg Dt,if_pos Dt])
   |(rename_i h1 h0;unfold d25;rw[if_pos h1,if_neg Dt,if_neg Dt]))
def tA(t:Int):Int:=tb [1,0,-1,0,-1,0,1,0] t.toNat
def tB(t:Int):Int:=tb [0,-1,0,1,0,-1,0,1] t.toNat
def tC(t:Int):Int:=tb [0,1,0,-1,0,-1,0,1] t.toNat
def tD(t:Int):Int:=tb [1,0,-1,0,1,0,-1,0] t.toNat
def b25(a:Int):Prop:= -1≤a∧a≤1
theorem f13{t:Int}(h0:0≤t)(h1:t<8):b25 (tA t)∧b25 (tB t)∧b25 (tC t)∧b25 (tD t):=by
 have:∀q:Nat,q<8→b25 (tA q)∧b25 (tB q)∧b25 (tC q)∧b25 (tD q):=by unfold b25;decide
 have:=this t.toNat Dt
 rwa[Kw h0]at this
theorem b5t{a x:Int}(h:b25 a):a*x=0∨a*x=x∨a*x= -x:=by
 have h1:=h.1
 have h2:=h.2
 have:a= -1∨a=0∨a=1:=Dt
 rcases this with rfl|rfl|rfl<;>simp
abbrev f2y:FuncId:=122
def c9e:Kon
 | [.agg [.int .i64 a,.int .i64 b,.int .i64 c,.int .i64 d],.int .i64 x,.int .i64 y]=>some (b25 a∧b25 b∧b25 c∧b25 d∧ -1000000≤x∧x≤1000000∧ -1000000≤y∧y≤1000000,.tup [.int .i64 (a*x+b*y),.int .i64 (c*x+d*y)])
 |_=>none
def g96:Fam:=⟨Int×Int×Int×Int×Int×Int,fun(a,b,c,d,x,y)=>[.agg [.int .i64 a,.int .i64 b,.int .i64 c,.int .i64 d],.int .i64 x,.int .i64 y],fun(a,b,c,d,x,y)=>b25 a∧b25 b∧b25 c∧b25 d∧ -1000000≤x∧x≤1000000∧ -1000000≤y∧y≤1000000,fun(a,b,c,d,x,y)=>.tup [.int .i64 (a*x+b*y),.int .i64 (c*x+d*y)]⟩
theorem g1f:PS f2y c9e:=by
 refine con [] Dv g96 (fun _ _=>none) c9e ?_ ?_ Go.Proofs.Tryz.func122 Du Du Du ?_
 ·intro args pre s h hp
  unfold c9e at h
  split at h
  ·rename_i a b c d x y;cases h;exact⟨(a,b,c,d,x,y),by simp[g96,b2h,SV.le2,SV.le1,b24,SV.le0],hp,rfl⟩
  ·cases h
 ·exact Bw
 ·rintro⟨a,b,c,d,x,y⟩ ⟨ha,hb,hc,hd,hx⟩
  have e1:=b5t (x:=x) ha
  have e2:=b5t (x:=y) hb
  have e3:=b5t (x:=x) hc
  have e4:=b5t (x:=y) hd
  refine wlk _ ?_;(repeat' first|constructor|refine Iu fun hu=> ?_|intro h);all_goals refine Lm ?_
  all_goals(first|rfl|exact A4)
abbrev f25:FuncId:=125
def c4n:Kon
 | [.agg [.int .i64 a,.int .i64 b,.int .i64 c,.int .i64 d],.agg [.int .i64 p,.int .i64 q,.int .i64 r,.int .i64 s]]=>some ((b25 a∧b25 b∧b25 c∧b25 d)∧b25 p∧b25 q∧b25 r∧b25 s,.agg [.int .i64 (p*a+q*c),.int .i64 (p*b+q*d),.int .i64 (r*a+s*c),.int .i64 (r*b+s*d)])
 |_=>none
def d9k:Fam:=⟨Int×Int×Int×Int×Int×Int×Int×Int,fun(a,b,c,d,p,q,r,s)=>[.agg [.int .i64 a,.int .i64 b,.int .i64 c,.int .i64 d],.agg [.int .i64 p,.int .i64 q,.int .i64 r,.int .i64 s]],fun(a,b,c,d,p,q,r,s)=>(b25 a∧b25 b∧b25 c∧b25 d)∧b25 p∧b25 q∧b25 r∧b25 s,fun(a,b,c,d,p,q,r,s)=>.agg [.int .i64 (p*a+q*c),.int .i64 (p*b+q*d),.int .i64 (r*a+s*c),.int .i64 (r*b+s*d)]⟩
theorem g6m:PS f25 c4n:=by
 refine con [(f2y,c9e)] (by simpa using g1f) d9k (fun _ _=>none) c4n ?_ ?_ Go.Proofs.Tryz.func125 Du Du Du ?_
 ·intro args pre s h hp
  unfold c4n at h
  split at h
  ·rename_i a b c d p q r s;cases h;exact⟨(a,b,c,d,p,q,r,s),by simp[d9k,b2h,SV.le2,SV.le1,b24,SV.le0],hp,rfl⟩
  ·cases h
 ·exact Bv
 ·rintro⟨a,b,c,d,p,q,r,s⟩ ⟨⟨ha,hb,hc,hd⟩,hP,hQ,hR,hS⟩
  refine wlk _ ?_;(repeat' first|constructor|refine Iu fun hu=> ?_|intro h);all_goals refine Lm ?_
  all_goals(first|rfl|(simp only[b25]at*;refine⟨hP,hQ,hR,hS,?_⟩;omega))
def rowM(i:Nat)(a b c d:Int):Bool:=decide (tb [1,0,-1,0,-1,0,1,0] i=a)&&(decide (tb [0,-1,0,1,0,-1,0,1] i=b)&&(decide (tb [0,1,0,-1,0,-1,0,1] i=c)&&(decide (tb [1,0,-1,0,1,0,-1,0] i=d)&&true)))
def g7x(l:List Nat)(a b c d:Int):Int:=match l with
 | []=>0
 |i::l=>bif rowM i a b c d then i else g7x l a b c d
def numM(a b c d:Int):Int:=g7x [0,1,2,3,4,5,6,7] a b c d
def g68:SV:=.agg (b41 0++b41 1++b41 2++b41 3++b41 4++b41 5++b41 6++b41 7)
def INum:Int×Int×Int×Int→Nat→Option Inv
 |(a,b,c,d),2=>some {β:=Nat,ok:=fun i=>i≤8∧numM a b c d=g7x ([0,1,2,3,4,5,6,7].drop i) a b c d,st:=fun i=>⟨[⟨6,none,.int .i64 i⟩,⟨5,none,g68⟩,⟨2,none,.int .u8 0⟩,⟨1,none,.own 0 0⟩],[.cells 234 [.int .i64 a,.int .i64 b,.int .i64 c,.int .i64 d]]⟩,μ:=fun i=>8-i}
 |_,_=>none
theorem b5s(i:Nat)(l:List Nat)(a b c d:Int)(h:rowM i a b c d=false):g7x (i::l) a b c d=g7x l a b c d:=by
 rw[g7x,h,cond_false]
theorem j29(i:Nat)(l:List Nat)(a b c d:Int)(h:rowM i a b c d=true):g7x (i::l) a b c d=i:=by
 rw[g7x,h,Ls]
abbrev g0r:FuncId:=124
def d0y:Kon
 | [.agg [.int .i64 a,.int .i64 b,.int .i64 c,.int .i64 d]]=>some (True,.int .u8 (numM a b c d))
 |_=>none
def g21:Fam:=⟨Int×Int×Int×Int,fun(a,b,c,d)=>[.agg [.int .i64 a,.int .i64 b,.int .i64 c,.int .i64 d]],fun(_,_,_,_)=>True,fun(a,b,c,d)=>.int .u8 (numM a b c d)⟩
theorem j1b:PS g0r d0y:=by
 refine con [] Dv g21 INum d0y ?_ ?_ Go.Proofs.Tryz.func124 Du Du Du ?_
 ·intro args pre s h hp
  unfold d0y at h
  split at h
  ·rename_i a b c d;cases h;exact⟨(a,b,c,d),by simp[g21,b2h,SV.le2,SV.le1,b24,SV.le0],hp,rfl⟩
  ·cases h
 ·exact Bu
 ·rintro⟨a,b,c,d⟩ hp
  replace hp:True:=hp
  refine wlk _ ?_;(repeat' first|constructor|refine Iu fun hu=> ?_|intro h);all_goals refine Lm ?_
  refine⟨(0:Nat),⟨Dt,rfl⟩,?_,?_⟩
  ·refine wlk _ ?_;(repeat' first|constructor|refine Iu fun hu=> ?_|intro h);all_goals refine Lm ?_
   all_goals first|exact A5|skip
  ·intro i hi
   obtain⟨cw,be⟩:=hi
   have:i=0∨i=1∨i=2∨i=3∨i=4∨i=5∨i=6∨i=7∨i=8:=Dt
   rcases this with rfl|rfl|rfl|rfl|rfl|rfl|rfl|rfl|rfl
   all_goals replace be:=be
   all_goals refine wlk _ ?_;(repeat' first|constructor|refine Iu fun hu=> ?_|intro h);all_goals refine Lm ?_
   all_goals(first
    |decide
    |exact A4
    |exact be.symm
    |exact(be.trans (j29 _ _ _ _ _ _ h)).symm
    |(first|refine⟨(1:Nat),⟨Dy,be.trans (b5s 0 _ _ _ _ _ h)⟩,Dy,?_⟩|refine⟨(2:Nat),⟨Dy,be.trans (b5s 1 _ _ _ _ _ h)⟩,Dy,?_⟩|refine⟨(3:Nat),⟨Dy,be.trans (b5s 2 _ _ _ _ _ h)⟩,Dy,?_⟩|refine⟨(4:Nat),⟨Dy,be.trans (b5s 3 _ _ _ _ _ h)⟩,Dy,?_⟩|refine⟨(5:Nat),⟨Dy,be.trans (b5s 4 _ _ _ _ _ h)⟩,Dy,?_⟩|refine⟨(6:Nat),⟨Dy,be.trans (b5s 5 _ _ _ _ _ h)⟩,Dy,?_⟩|refine⟨(7:Nat),⟨Dy,be.trans (b5s 6 _ _ _ _ _ h)⟩,Dy,?_⟩|refine⟨(8:Nat),⟨Dy,be.trans (b5s 7 _ _ _ _ _ h)⟩,Dy,?_⟩))
   all_goals refine wlk _ ?_;(repeat' first|constructor|refine Iu fun hu=> ?_|intro h);all_goals refine Lm ?_
   all_goals first|exact Aq
def cT(t u:Int):Int:=numM (tA u*tA t+tB u*tC t) (tA u*tB t+tB u*tD t) (tC u*tA t+tD u*tC t) (tC u*tB t+tD u*tD t)
theorem cT_le{t u:Int}(h0:0≤t)(h1:t<8)(k0:0≤u)(k1:u<8):0≤cT t u∧cT t u<8:=by
 have:∀q:Nat,q<8→∀r:Nat,r<8→0≤cT q r∧cT q r<8:=by decide +kernel
 have:=this t.toNat Dt u.toNat Dt
 rwa[Kw h0,Kw k0]at this
abbrev f6j:FuncId:=145
def d2f:Kon
 | [.int .i64 n]=>some (True,.bool (or (decide (n< -16384)) (decide (16384<n))))
 |_=>none
def f5p:Fam:=⟨Int,fun n=>[.int .i64 n],fun _=>True,fun n=>.bool (or (decide (n< -16384)) (decide (16384<n)))⟩
theorem j3k:PS f6j d2f:=by
 refine con [] Dv f5p (fun _ _=>none) d2f ?_ ?_ Go.Proofs.Tryz.func145 Du Du Du ?_
 ·intro args pre s h hp
  unfold d2f at h
  split at h
  ·rename_i n;cases h;exact⟨n,by simp[f5p,b2h,SV.le2,SV.le1,SV.le0],hp,rfl⟩
  ·cases h
 ·exact Bu
 ·intro(n:Int) hp
  replace hp:True:=hp
  refine wlk _ ?_;(repeat' first|constructor|refine Iu fun hu=> ?_|intro h);all_goals refine Lm ?_
  all_goals rfl
def b1d(t x y:Int):Int:=if t<8∧ -16384≤x∧x≤16384∧ -16384≤y∧y≤16384∧(x+y)%2=0 then 0 else 1
theorem b3m{t x y:Int}(h:b1d t x y=0):t<8∧ -16384≤x∧x≤16384∧ -16384≤y∧y≤16384∧(x+y)%2=0:=by
 unfold b1d at h
 split at h
 ·assumption
 ·cases h
theorem tmod2(n:Int):n.tmod 2=0↔n%2=0:=by
 rw[←Int.dvd_iff_emod_eq_zero,Int.dvd_iff_tmod_eq_zero]
abbrev b64:FuncId:=80
def b47:Kon
 | [.agg [.int .u8 t,.int .i64 x,.int .i64 y]]=>some (0≤t∧t≤255,.int .i64 (b1d t x y))
 |_=>none
def f2u:Fam:=⟨Int×Int×Int,fun(t,x,y)=>[.agg [.int .u8 t,.int .i64 x,.int .i64 y]],fun(t,_,_)=>0≤t∧t≤255,fun(t,x,y)=>.int .i64 (b1d t x y)⟩
theorem b7j:PS b64 b47:=by
 refine con [(f6j,d2f)] (by simpa using j3k) f2u (fun _ _=>none) b47 ?_ ?_ Go.Proofs.Tryz.func80 Du Du Du ?_
 ·intro args pre s h hp
  unfold b47 at h
  split at h
  ·rename_i t x y;cases h;exact⟨(t,x,y),by simp[f2u,b2h,SV.le2,SV.le1,b24,SV.le0],hp,rfl⟩
  ·cases h
 ·exact Bu
 ·rintro⟨t,x,y⟩ hp
  replace hp:0≤t∧t≤255:=hp
  refine wlk _ ?_;(repeat' first|constructor|refine Iu fun hu=> ?_|intro h);all_goals refine Lm ?_
  all_goals(try(simp only[Jy,Ka,I9,Ie]at*))
  all_goals(first
   |decide
   |exact A4
   |(unfold b1d;rw[if_neg Dt])
   |(intro _;decide)
   |(intros;simp only[inK];omega)
   |(intros;unfold b1d;rw[if_neg Dt])
   |(have e:=tmod2 (x+y);unfold b1d;rw[if_pos Dt])
   |(have e:=tmod2 (x+y);unfold b1d;rw[if_neg Dt]))
def lmE(t x y:Int):Int:=if b1d t x y=0 then 0 else 3
def keep(e v:Int):Int:=if e=0 then v else 0
abbrev d9y:FuncId:=123
def c4s:Kon
 | [.agg [.int .u8 t,.int .i64 x,.int .i64 y]]=>some (0≤t∧t≤255,.tup [.agg [.int .u8 (keep (lmE t x y) t),.int .i64 (keep (lmE t x y) x),.int .i64 (keep (lmE t x y) y)],.int .i64 (lmE t x y)])
 |_=>none
def f26:Fam:=⟨Int×Int×Int,fun(t,x,y)=>[.agg [.int .u8 t,.int .i64 x,.int .i64 y]],fun(t,_,_)=>0≤t∧t≤255,fun(t,x,y)=>.tup [.agg [.int .u8 (keep (lmE t x y) t),.int .i64 (keep (lmE t x y) x),.int .i64 (keep (lmE t x y) y)],.int .i64 (lmE t x y)]⟩
theorem g57:PS d9y c4s:=by
 refine con [(b64,b47)] (by simpa using b7j) f26 (fun _ _=>none) c4s ?_ ?_ Go.Proofs.Tryz.func123 Du Du Du ?_
 ·intro args pre s h hp
  unfold c4s at h
  split at h
  ·rename_i t x y;cases h;exact⟨(t,x,y),by simp[f26,b2h,SV.le2,SV.le1,b24,SV.le0],hp,rfl⟩
  ·cases h
 ·exact Bu
 ·rintro⟨t,x,y⟩ hp
  replace hp:0≤t∧t≤255:=hp
  refine wlk _ ?_;(repeat' first|constructor|refine Iu fun hu=> ?_|intro h);all_goals refine Lm ?_
  all_goals(try exact hp)
  all_goals(simp only[I9,Ie]at h)
  all_goals(simp[keep,lmE,h])
abbrev g8z:FuncId:=98
def d9x:Kon
 | [.agg [.int .u8 t,.int .i64 x,.int .i64 y]]=>some (0≤t∧t≤255,.bool (and (decide (b1d t x y=0)) (decide (4≤t))))
 |_=>none
def g7u:Fam:=⟨Int×Int×Int,fun(t,x,y)=>[.agg [.int .u8 t,.int .i64 x,.int .i64 y]],fun(t,_,_)=>0≤t∧t≤255,fun(t,x,y)=>.bool (and (decide (b1d t x y=0)) (decide (4≤t)))⟩
theorem pFlips:PS g8z d9x:=by
 refine con [(b64,b47)] (by simpa using b7j) g7u (fun _ _=>none) d9x ?_ ?_ Go.Proofs.Tryz.func98 Du Du Du ?_
 ·intro args pre s h hp
  unfold d9x at h
  split at h
  ·rename_i t x y;cases h;exact⟨(t,x,y),by simp[g7u,b2h,SV.le2,SV.le1,b24,SV.le0],hp,rfl⟩
  ·cases h
 ·exact Bu
 ·rintro⟨t,x,y⟩ hp
  replace hp:0≤t∧t≤255:=hp
  refine wlk _ ?_;(repeat' first|constructor|refine Iu fun hu=> ?_|intro h);all_goals refine Lm ?_
  all_goals(first|exact hp|rfl|skip)
abbrev d3v:FuncId:=26
def c2d:Kon
 | []=>some (True,.agg [.int .u8 0,.int .i64 0,.int .i64 0])
 |_=>none
def g03:Fam:=⟨Unit,fun _=>[],fun _=>True,fun _=>.agg [.int .u8 0,.int .i64 0,.int .i64 0]⟩
theorem f9n:PS d3v c2d:=by
 refine con [] Dv g03 (fun _ _=>none) c2d ?_ ?_ Go.Proofs.Tryz.func26 Du Du Du ?_
 ·intro args pre s h hp
  unfold c2d at h
  split at h
  ·cases h;exact⟨(),Ix,Ix,rfl⟩
  ·cases h
 ·exact Cb
 ·intro i hp
  refine wlk _ ?_;(repeat' first|constructor|refine Iu fun hu=> ?_|intro h);all_goals refine Lm ?_
theorem g65(k C:Int):b08 k C=0∨b08 k C=1:=by unfold b08;split<;>simp
def ofT(k:Int):Int:=if k=1 then 4 else if k=2 then 6 else if k=3 then 5 else 7
def ofX(k C:Int):Int:=if k=1 then 2*C else if k=2 then 0 else if k=3 then C else -C
def ofY(k C:Int):Int:=if k=1 then 0 else if k=2 then 2*C else C
abbrev d62:FuncId:=59
def d0j:Kon
 | [.agg [.int .u8 k,.int .i64 C]]=>some (True,.tup [.agg [.int .u8 (keep (b08 k C) (ofT k)),.int .i64 (keep (b08 k C) (ofX k C)),.int .i64 (keep (b08 k C) (ofY k C))],.int .i64 (b08 k C)])
 |_=>none
def FMvOf:Fam:=⟨Int×Int,fun(k,C)=>[.agg [.int .u8 k,.int .i64 C]],fun(_,_)=>True,fun(k,C)=>.tup [.agg [.int .u8 (keep (b08 k C) (ofT k)),.int .i64 (keep (b08 k C) (ofX k C)),.int .i64 (keep (b08 k C) (ofY k C))],.int .i64 (b08 k C)]⟩
theorem j12:PS d62 d0j:=by
 refine con [(b9c,b5v)] (by simpa using c2a) FMvOf (fun _ _=>none) d0j ?_ ?_ Go.Proofs.Tryz.func59 Du Du Du ?_
 ·intro args pre s h hp
  unfold d0j at h
  split at h
  ·rename_i k C;cases h;exact⟨(k,C),by simp[FMvOf,b2h,SV.le2,SV.le1,b24,SV.le0],hp,rfl⟩
  ·cases h
 ·exact Bu
 ·rintro⟨k,C⟩ hp
  replace hp:True:=hp
  refine wlk _ ?_;(repeat' first|constructor|refine Iu fun hu=> ?_|intro h);all_goals refine Lm ?_
  all_goals(have e:=g65 k C;have e':=@b6k k C)
  all_goals(try simp only[inK])
  all_goals grind[keep,ofT,ofX,ofY]
def b78(t x y:Int):Int:=tA t*x+tB t*y
def b79(t x y:Int):Int:=tC t*x+tD t*y
def thE(t x y u z w:Int):Int:=if b1d t x y=0∧b1d u z w=0 then lmE (cT t u) (b78 u x y+z) (b79 u x y+w)else 1
def thT(t x y u z w:Int):Int:=keep (thE t x y u z w) (cT t u)
def thX(t x y u z w:Int):Int:=keep (thE t x y u z w) (b78 u x y+z)
def thY(t x y u z w:Int):Int:=keep (thE t x y u z w) (b79 u x y+w)
theorem d67{t x y B:Int}(h0:0≤t)(h1:t<8)(a1: -B≤x)(a2:x≤B)(b1: -B≤y)(b2:y≤B): -(2*B)≤b78 t x y∧b78 t x y≤2*B∧ -(2*B)≤b79 t x y∧b79 t x y≤2*B:=by
 obtain⟨ha,hb,hc,hd⟩:=f13 h0 h1
 have e1:=b5t (x:=x) ha
 have e2:=b5t (x:=y) hb
 have e3:=b5t (x:=x) hc
 have e4:=b5t (x:=y) hd
 unfold b78 b79
 omega
abbrev d6r:FuncId:=70
def d1z:Kon
 | [.agg [.int .u8 t,.int .i64 x,.int .i64 y],.agg [.int .u8 u,.int .i64 z,.int .i64 w]]=>some ((0≤t∧t≤255)∧0≤u∧u≤255,.tup [.agg [.int .u8 (thT t x y u z w),.int .i64 (thX t x y u z w),.int .i64 (thY t x y u z w)],.int .i64 (thE t x y u z w)])
 |_=>none
def FThen:Fam:=⟨Int×Int×Int×Int×Int×Int,fun(t,x,y,u,z,w)=>[.agg [.int .u8 t,.int .i64 x,.int .i64 y],.agg [.int .u8 u,.int .i64 z,.int .i64 w]],fun(t,_,_,u,_,_)=>(0≤t∧t≤255)∧0≤u∧u≤255,fun(t,x,y,u,z,w)=>.tup [.agg [.int .u8 (thT t x y u z w),.int .i64 (thX t x y u z w),.int .i64 (thY t x y u z w)],.int .i64 (thE t x y u z w)]⟩
theorem j25 : PS d6r d1z := by
  refine con [(b64, b47), (f2y, c9e), (f25, c4n), (g0r, d0y), (d9y, c4s)] (by simpa using ⟨b7j, g1f, g6m, j1b, g57⟩) FThen (fun _ _ => none) d1z ?_ ?_ Go.Proofs.Tryz.func70 Du Du Du ?_
  · intro args pre s h hp
    unfold d1z at h
    split at h
    · rename_i t x y u z w; cases h; exact ⟨(t, x, y, u, z, w), by simp [FThen, b2h, SV.le2, SV.le1, b24, SV.le0], hp, rfl⟩
    · cases h
  · exact Bv
  · rintro ⟨t, x, y, u, z, w⟩ hp
    replace hp : (0 ≤ t ∧ t ≤ 255) ∧ 0 ≤ u ∧ u ≤ 255 := hp
    refine wlk _ ?_; (repeat' first | constructor | refine Iu fun hu => ?_ | intro h); all_goals refine Lm ?_
    all_goals (first
      | exact hp.1
      | exact fun _ => hp.2
      | (have e : thE t x y u z w = 1 := by grind [thE]
         simp [thT, thX, thY, keep, e]; done)
      | (rw [Ka] at h
         have e1 : b1d t x y = 0 := by simpa using h.1
         have e2 : b1d u z w = 0 := by simpa using h.2
         have m1 := b3m e1
         have m2 := b3m e2
         have r := d67 (t := u) (x := x) (y := y) (B := 16384) hp.2.1 m2.1 Dt Dt Dt Dt
         have c := cT_le hp.1.1 m1.1 hp.2.1 m2.1
         have u1 := f13 hp.1.1 m1.1
         have u2 := f13 hp.2.1 m2.1
         first
         | (constructor <;> omega)
         | exact ⟨u2.1, u2.2.1, u2.2.2.1, u2.2.2.2, Dt, Dt, Dt, Dt⟩
         | exact ⟨u1, u2⟩
         | (change inK .i64 (b78 u x y + z); simp only [inK]; omega)
         | (change inK .i64 (b79 u x y + w); simp only [inK]; omega)
         | (refine ⟨c.1, ?_⟩; change cT t u ≤ 255; omega)
         | (have e : thE t x y u z w = lmE (cT t u) (b78 u x y + z) (b79 u x y + w) := by unfold thE; rw [if_pos ⟨e1, e2⟩]
            first | exact e.symm | (unfold thT; rw [e]; rfl) | (unfold thX; rw [e]; rfl) | (unfold thY; rw [e]; rfl)))
      | skip)
def poE(t x y a b:Int):Int:=if b1d t x y=0∧b7v a b=0 then(if b7v (b78 t a b+2*x) (b79 t a b+2*y)=0 then 0 else 3)else 1
def poX(t x y a b:Int):Int:=keep (poE t x y a b) (b78 t a b+2*x)
def poY(t x y a b:Int):Int:=keep (poE t x y a b) (b79 t a b+2*y)
abbrev f0h:FuncId:=200
def c46:Kon
 | [.agg [.int .u8 t,.int .i64 x,.int .i64 y],.agg [.int .i64 a,.int .i64 b]]=>some (0≤t∧t≤255,.tup [.agg [.int .i64 (poX t x y a b),.int .i64 (poY t x y a b)],.int .i64 (poE t x y a b)])
 |_=>none
def f24:Fam:=⟨Int×Int×Int×Int×Int,fun(t,x,y,a,b)=>[.agg [.int .u8 t,.int .i64 x,.int .i64 y],.agg [.int .i64 a,.int .i64 b]],fun(t,_,_,_,_)=>0≤t∧t≤255,fun(t,x,y,a,b)=>.tup [.agg [.int .i64 (poX t x y a b),.int .i64 (poY t x y a b)],.int .i64 (poE t x y a b)]⟩
theorem g37 : PS f0h c46 := by
  refine con [(b64, b47), (f2y, c9e), (d23, c24)] (by simpa using ⟨b7j, g1f, f15⟩) f24 (fun _ _ => none) c46 ?_ ?_ Go.Proofs.Tryz.func200 Du Du Du ?_
  · intro args pre s h hp
    unfold c46 at h
    split at h
    · rename_i t x y a b; cases h; exact ⟨(t, x, y, a, b), by simp [f24, b2h, SV.le2, SV.le1, b24, SV.le0], hp, rfl⟩
    · cases h
  · exact Bv
  · rintro ⟨t, x, y, a, b⟩ hp
    replace hp : 0 ≤ t ∧ t ≤ 255 := hp
    refine wlk _ ?_; (repeat' first | constructor | refine Iu fun hu => ?_ | intro h); all_goals refine Lm ?_
    all_goals (first
      | exact hp
      | (have e : poE t x y a b = 1 := by grind [poE]
         simp [poX, poY, keep, e]; done)
      | (have h1 : (!decide (b1d t x y = 0) || !decide (b7v a b = 0)) = false := by assumption
         rw [Ka] at h1
         have e1 : b1d t x y = 0 := by simpa using h1.1
         have e2 : b7v a b = 0 := by simpa using h1.2
         have m1 := b3m e1
         have m2 := c9h e2
         have r := d67 (t := t) (x := a) (y := b) (B := 65536) hp.1 m1.1 Dt Dt Dt Dt
         have u1 := f13 hp.1 m1.1
         first
         | (constructor <;> omega)
         | exact ⟨u1.1, u1.2.1, u1.2.2.1, u1.2.2.2, Dt, Dt, Dt, Dt⟩
         | (change inK .i64 (b78 t a b + 2 * x); simp only [inK]; omega)
         | (change inK .i64 (b79 t a b + 2 * y); simp only [inK]; omega)
         | exact A4
         | (have e : poE t x y a b = (if b7v (b78 t a b + 2 * x) (b79 t a b + 2 * y) = 0 then 0 else 3) := by unfold poE; rw [if_pos ⟨e1, e2⟩]
            first
            | (have q : b7v (b78 t a b + 2 * x) (b79 t a b + 2 * y) = 0 := by (change (!decide (b7v (b78 t a b + 2 * x) (b79 t a b + 2 * y) = 0)) = false at h; simpa using h)
               rw [Iw q] at e
               simp only [poX, poY, keep, e, K5]; try rfl)
            | (have q : ¬ b7v (b78 t a b + 2 * x) (b79 t a b + 2 * y) = 0 := by (change (!decide (b7v (b78 t a b + 2 * x) (b79 t a b + 2 * y) = 0)) = true at h; simpa using h)
               rw [Iy q] at e
               simp [poX, poY, keep, e]; done)))
      | skip)
def b0e(W H:Int):Int:=if 1≤W∧1≤H∧W≤256∧H≤256∧W*H≤256 then 0 else 1
theorem d3j{W H:Int}(h1:1≤W)(h2:1≤H)(h3:W≤256)(h4:H≤256):1≤W*H∧W*H≤65536:=by
 have a:1*1≤W*H:=M2 h1 h2 Dt Dt
 have b:W*H≤256*256:=M2 h3 h4 Dt Dt
 omega
abbrev b4d:FuncId:=8
def b0z:Kon
 | [.agg [.int .i64 W,.int .i64 H]]=>some (True,.int .i64 (b0e W H))
 |_=>none
def c3q:Fam:=⟨Int×Int,fun(W,H)=>[.agg [.int .i64 W,.int .i64 H]],fun _=>True,fun(W,H)=>.int .i64 (b0e W H)⟩
theorem b2c:PS 8 b0z:=by
 refine con [] Dv c3q (fun _ _=>none) b0z ?_ ?_ Go.Proofs.Tryz.func8 Du Du Du ?_
 ·intro args pre s h hp
  unfold b0z at h
  split at h
  ·rename_i W H;cases h;exact⟨(W,H),by simp[c3q,b2h,SV.le2,SV.le1,b24,SV.le0],Ix,rfl⟩
  ·cases h
 ·exact Bu
 ·rintro⟨W,H⟩-
  refine wlk _ ?_;(repeat' first|constructor|refine Iu fun hu=> ?_|intro h);all_goals refine Lm ?_
  ·intro h
   simp at h
   have:=d3j (W:=W) (H:=H) Dt Dt Dt Dt
   simp only[inK];omega
  ·simp[b0e]at h⊢;omega
  ·simp[b0e]at h⊢;omega
def g3z(W H i:Int):Bool:=decide (0≤i)&&decide (i<4*W*H)
def kHas:Kon
 | [.agg [.int .i64 W,.int .i64 H],.int .i64 i]=>some (b0e W H=0,.bool (g3z W H i))
 |_=>none
def FHas:Fam:=⟨Int×Int×Int,fun(W,H,i)=>[.agg [.int .i64 W,.int .i64 H],.int .i64 i],fun(W,H,_)=>b0e W H=0,fun(W,H,i)=>.bool (g3z W H i)⟩
theorem b11{W H:Int}(h:b0e W H=0):1≤W∧1≤H∧W≤256∧H≤256∧1≤W*H∧W*H≤256∧4*W*H=4*(W*H):=by
 unfold b0e at h
 split at h
 ·rename_i hc
  obtain⟨h1,h2,h3,h4,h5⟩:=hc
  have:=d3j h1 h2 h3 h4
  exact⟨h1,h2,h3,h4,this.1,h5,Int.mul_assoc _ _ _⟩
 ·cases h
theorem pHas:PS 74 kHas:=by
 refine con [] Dv FHas (fun _ _=>none) kHas ?_ ?_ Go.Proofs.Tryz.func74 Du Du Du ?_
 ·intro args pre s h hp
  unfold kHas at h
  split at h
  ·rename_i W H i;cases h;exact⟨(W,H,i),by simp[FHas,b2h,SV.le2,SV.le1,b24,SV.le0],hp,rfl⟩
  ·cases h
 ·exact Bv
 ·rintro⟨W,H,i⟩ hp
  obtain⟨h1,h2,h3,h4,h5,h6,h7⟩:=b11 hp
  refine wlk _ ?_;(repeat' first|constructor|refine Iu fun hu=> ?_|intro h);all_goals refine Lm ?_
  ·intro _;simp only[inK];omega
  ·intro _;simp only[inK];omega
  all_goals rfl
abbrev nCell:FuncId:=75
def f7u:Kon
 | [.agg [.int .i64 W,.int .i64 _],.int .i64 i]=>some (1≤W∧W≤256∧0≤i∧i≤1024,.agg [.int .i64 (i/4%W),.int .i64 (i/4/W),.int .u8 (i%4)])
 |_=>none
def FCell:Fam:=⟨Int×Int×Int,fun(W,H,i)=>[.agg [.int .i64 W,.int .i64 H],.int .i64 i],fun(W,_,i)=>1≤W∧W≤256∧0≤i∧i≤1024,fun(W,_,i)=>.agg [.int .i64 (i/4%W),.int .i64 (i/4/W),.int .u8 (i%4)]⟩
theorem pCell:PS 75 f7u:=by
 refine con [] Dv FCell (fun _ _=>none) f7u ?_ ?_ Go.Proofs.Tryz.func75 Du Du Du ?_
 ·intro args pre s h hp
  unfold f7u at h
  split at h
  ·rename_i W H i;cases h;exact⟨(W,H,i),by simp[FCell,b2h,SV.le2,SV.le1,b24,SV.le0],hp,rfl⟩
  ·cases h
 ·exact Bv
 ·rintro⟨W,H,i⟩ ⟨h1,h2,h3,h4⟩
  have a1:i.tdiv 4=i/4:=Int.tdiv_eq_ediv_of_nonneg h3
  have a2:i.tmod 4=i%4:=L5 h3
  have a3:(i/4).tdiv W=i/4/W:=Int.tdiv_eq_ediv_of_nonneg Dt
  have a4:(i/4).tmod W=i/4%W:=L5 Dt
  have a5:i/4/W≤i/4:=Int.ediv_le_self _ Dt
  have a6:0≤i/4/W:=Int.ediv_nonneg Dt Dt
  refine wlk _ ?_;(repeat' first|constructor|refine Iu fun hu=> ?_|intro h);all_goals refine Lm ?_
  all_goals(try simp only[a1,a2,a3,a4])
  all_goals(try simp only[inK])
  all_goals omega
def b0q(X Y Q:Int):Int:=if -4096≤X∧X≤4096∧ -4096≤Y∧Y≤4096∧Q≤3 then 0 else 1
abbrev b3r:FuncId:=76
def b14:Kon
 | [.agg [.int .i64 X,.int .i64 Y,.int .u8 Q]]=>some (True,.int .i64 (b0q X Y Q))
 |_=>none
def c69:Fam:=⟨Int×Int×Int,fun(X,Y,Q)=>[.agg [.int .i64 X,.int .i64 Y,.int .u8 Q]],fun _=>True,fun(X,Y,Q)=>.int .i64 (b0q X Y Q)⟩
theorem b3h:PS 76 b14:=by
 refine con [] Dv c69 (fun _ _=>none) b14 ?_ ?_ Go.Proofs.Tryz.func76 Du Du Du ?_
 ·intro args pre s h hp
  unfold b14 at h
  split at h
  ·rename_i X Y Q;cases h;exact⟨(X,Y,Q),by simp[c69,b2h,SV.le2,SV.le1,b24,SV.le0],Ix,rfl⟩
  ·cases h
 ·exact Bu
 ·rintro⟨X,Y,Q⟩-
  refine wlk _ ?_;(repeat' first|constructor|refine Iu fun hu=> ?_|intro h);all_goals refine Lm ?_
  ·simp[b0q]at h⊢;omega
  ·simp[b0q]at h⊢;omega
theorem b2x{X Y Q:Int}(h:b0q X Y Q=0): -4096≤X∧X≤4096∧ -4096≤Y∧Y≤4096∧Q≤3:=by
 unfold b0q at h
 split at h
 ·assumption
 ·cases h
def b5p(W H i:Int):Int:=if b0e W H=0 then if g3z W H i=true then 0 else 7 else 1
def ceX(W H i:Int):Int:=if b5p W H i=0 then i/4%W else 0
def ceY(W H i:Int):Int:=if b5p W H i=0 then i/4/W else 0
def ceQ(W H i:Int):Int:=if b5p W H i=0 then i%4 else 0
theorem c4p(W H:Int):b0e W H=0∨b0e W H=1:=by unfold b0e;split<;>simp
abbrev c70:FuncId:=39
def b3j:Kon
 | [.agg [.int .i64 W,.int .i64 H],.int .i64 i]=>some (True,.tup [.agg [.int .i64 (ceX W H i),.int .i64 (ceY W H i),.int .u8 (ceQ W H i)],.int .i64 (b5p W H i)])
 |_=>none
def c7r:Fam:=⟨Int×Int×Int,fun(W,H,i)=>[.agg [.int .i64 W,.int .i64 H],.int .i64 i],fun _=>True,fun(W,H,i)=>.tup [.agg [.int .i64 (ceX W H i),.int .i64 (ceY W H i),.int .u8 (ceQ W H i)],.int .i64 (b5p W H i)]⟩
theorem c0c:PS 39 b3j:=by
 refine con [(8,b0z),(74,kHas),(75,f7u)] (by simpa using⟨b2c,pHas,pCell⟩) c7r (fun _ _=>none) b3j ?_ ?_ Go.Proofs.Tryz.func39 Du Du Du ?_
 ·intro args pre s h hp
  unfold b3j at h
  split at h
  ·rename_i W H i;cases h;exact⟨(W,H,i),by simp[c7r,b2h,SV.le2,SV.le1,b24,SV.le0],Ix,rfl⟩
  ·cases h
 ·exact Bv
 ·rintro⟨W,H,i⟩-
  refine wlk _ ?_;(repeat' first|constructor|refine Iu fun hu=> ?_|intro h);all_goals refine Lm ?_
  all_goals(try simp only[ceX,ceY,ceQ,b5p])
  all_goals(try simp at h)
  all_goals(first|(simp[h];done)|skip)
  all_goals(try(rename_i h0;simp at h0;simp[h,h0];done))
  ·rw[Iy h];exact(c4p W H).resolve_left h
  ·rename_i h0;simp at h0
   obtain⟨h1,h2,h3,h4,h5,h6,h7⟩:=b11 h0
   simp[g3z]at h
   omega
def ndx(Q e:Int):Int:=[tb [0,1,0,-1] Q.toNat,tb [0,0,0,0] Q.toNat,tb [0,0,0,0] Q.toNat].getD e.toNat 0
def ndy(Q e:Int):Int:=[tb [-1,0,1,0] Q.toNat,tb [0,0,0,0] Q.toNat,tb [0,0,0,0] Q.toNat].getD e.toNat 0
def ndq(Q e:Int):Int:=[tb [2,3,0,1] Q.toNat,tb [1,0,3,2] Q.toNat,tb [3,2,1,0] Q.toNat].getD e.toNat 0
def b3t(X Y Q e:Int):Int:=if b0q X Y Q=0∧e≤2 then(if b0q (ndx Q e+X) (ndy Q e+Y) (ndq Q e)=0 then 0 else 3)else 1
def nbX(X Y Q e:Int):Int:=if b3t X Y Q e=0 then ndx Q e+X else 0
def nbY(X Y Q e:Int):Int:=if b3t X Y Q e=0 then ndy Q e+Y else 0
def nbQ(X Y Q e:Int):Int:=if b3t X Y Q e=0 then ndq Q e else 0
theorem j1a{Q e:Int}(h1:0≤Q)(h2:Q≤3)(h3:0≤e)(h4:e≤2): -1≤ndx Q e∧ndx Q e≤1∧ -1≤ndy Q e∧ndy Q e≤1∧0≤ndq Q e∧ndq Q e≤3:=by
 have:∀q:Nat,q<4→∀e:Nat,e<3→ -1≤ndx q e∧ndx q e≤1∧ -1≤ndy q e∧ndy q e≤1∧0≤ndq q e∧ndq q e≤3:=Dy
 have:=this Q.toNat Dt e.toNat Dt
 rwa[Kw h1,Kw h3]at this
theorem g71(X Y Q:Int):b0q X Y Q=0∨b0q X Y Q=1:=by unfold b0q;split<;>simp
abbrev b5a:FuncId:=40
def b16:Kon
 | [.agg [.int .i64 X,.int .i64 Y,.int .u8 Q],.int .u8 e]=>some (0≤Q∧0≤e,.tup [.agg [.int .i64 (nbX X Y Q e),.int .i64 (nbY X Y Q e),.int .u8 (nbQ X Y Q e)],.int .i64 (b3t X Y Q e)])
 |_=>none
def b81:Fam:=⟨Int×Int×Int×Int,fun(X,Y,Q,e)=>[.agg [.int .i64 X,.int .i64 Y,.int .u8 Q],.int .u8 e],fun(_,_,Q,e)=>0≤Q∧0≤e,
 fun(X,Y,Q,e)=>.tup [.agg [.int .i64 (nbX X Y Q e),.int .i64 (nbY X Y Q e),.int .u8 (nbQ X Y Q e)],.int .i64 (b3t X Y Q e)]⟩
theorem b39:PS 40 b16:=by
 refine con [(76,b14)] H0 b81 (fun _ _=>none) b16 ?_ ?_ Go.Proofs.Tryz.func40 Du Du Du ?_
 ·intro args pre s h hp
  unfold b16 at h
  split at h
  ·rename_i X Y Q e;cases h;exact⟨(X,Y,Q,e),by simp[b81,b2h,SV.le2,SV.le1,b24,SV.le0],hp,rfl⟩
  ·cases h
 ·exact Bv
 ·rintro⟨X,Y,Q,e⟩ ⟨hQ,he⟩
  refine wlk _ ?_;(repeat' first|constructor|refine Iu fun hu=> ?_|intro h);all_goals refine Lm ?_
  all_goals(try simp only[nbX,nbY,nbQ])
  all_goals(try(have e0:b3t X Y Q e=1:=by simp[b3t];simp at h;omega);simp[e0];done)
  ·simp at h;have:=b2x h.1;omega
  ·simp at h;omega
  all_goals(try(change inK .i64 (ndx Q e+X);simp at h;have:=b2x h.1;have n:=j1a hQ Dt he Dt;simp only[inK];omega))
  all_goals(try(change inK .i64 (ndy Q e+Y);simp at h;have:=b2x h.1;have n:=j1a hQ Dt he Dt;simp only[inK];omega))
  all_goals(rename_i h0;simp at h0)
  all_goals(change (!decide (b0q (ndx Q e+X) (ndy Q e+Y) (ndq Q e)=0))=_ at h;simp at h)
  all_goals(try(have e0:b3t X Y Q e=3:=by simp[b3t,h0,h]);simp[e0];done)
  all_goals(have e0:b3t X Y Q e=0:=by simp[b3t,h0,h])
  all_goals(simp only[e0,K5])
  ·rfl
  ·rfl
  ·rfl
def b7w(W H X Y Q:Int):Int:=if b0e W H=0 then(if b0q X Y Q=0∧0≤X∧X<W∧0≤Y∧Y<H then 0 else 7)else 1
def c41(W H X Y Q:Int):Int:=if b7w W H X Y Q=0 then 4*(Y*W+X)+Q else 0
def kId:Kon
 | [.agg [.int .i64 W,.int .i64 H],.agg [.int .i64 X,.int .i64 Y,.int .u8 Q]]=>some (0≤Q,.tup [.int .i64 (c41 W H X Y Q),.int .i64 (b7w W H X Y Q)])
 |_=>none
def FId:Fam:=⟨Int×Int×Int×Int×Int,fun(W,H,X,Y,Q)=>[.agg [.int .i64 W,.int .i64 H],.agg [.int .i64 X,.int .i64 Y,.int .u8 Q]],fun(_,_,_,_,Q)=>0≤Q,
 fun(W,H,X,Y,Q)=>.tup [.int .i64 (c41 W H X Y Q),.int .i64 (b7w W H X Y Q)]⟩
theorem j1j{W H X Y:Int}(h:b0e W H=0)(_:0≤X)(h2:X<W)(h3:0≤Y)(h4:Y<H):0≤Y*W∧Y*W+X<W*H∧W*H≤256:=by
 obtain⟨a1,a2,a3,a4,a5,a6,a7⟩:=b11 h
 have b:Y*W≤(H-1)*W:=Int.mul_le_mul_of_nonneg_right Dt Dt
 have c:(H-1)*W=W*H-W:=by rw[Int.sub_mul,Int.one_mul,Int.mul_comm]
 have d:0≤Y*W:=M3 h3 Dt
 omega
theorem pId:PS 41 kId:=by
 refine con [(8,b0z),(76,b14)] (by simpa using⟨b2c,b3h⟩) FId (fun _ _=>none) kId ?_ ?_ Go.Proofs.Tryz.func41 Du Du Du ?_
 ·intro args pre s h hp
  unfold kId at h
  split at h
  ·rename_i W H X Y Q;cases h;exact⟨(W,H,X,Y,Q),by simp[FId,b2h,SV.le2,SV.le1,b24,SV.le0],hp,rfl⟩
  ·cases h
 ·exact Bv
 ·rintro⟨W,H,X,Y,Q⟩ hQ
  replace hQ:0≤Q:=hQ
  refine wlk _ ?_;(repeat' first|constructor|refine Iu fun hu=> ?_|intro h);all_goals refine Lm ?_
  all_goals(try(have e0:b7w W H X Y Q=1:=by(simp at h;simp[b7w,h]));rw[c41,e0];rfl)
  ·simp at h;rw[b7w,Iy h];exact(c4p W H).resolve_left h
  all_goals(try((have e0:b7w W H X Y Q=7:=by(rename_i h0;simp at h0;simp at h;rw[b7w,Iw h0,Iy];omega));first|exact e0.symm|(rw[c41,e0];rfl)))
  all_goals(rename_i h0;simp at h0;simp at h)
  all_goals(have b:=j1j (X:=X) (Y:=Y) h0 Dt Dt Dt Dt;have c:=b2x h.1.1.1.1)
  all_goals(try(simp only[inK];omega))
  all_goals(have e0:b7w W H X Y Q=0:=by rw[b7w,Iw h0,Iw];omega)
  ·rw[c41,e0];rfl
  ·exact e0.symm
def b0g(W H i e:Int):Int:=if b5p W H i=0 then(if b3t (ceX W H i) (ceY W H i) (ceQ W H i) e=0 then b7w W H (nbX (ceX W H i) (ceY W H i) (ceQ W H i) e) (nbY (ceX W H i) (ceY W H i) (ceQ W H i) e) (nbQ (ceX W H i) (ceY W H i) (ceQ W H i) e)else 1)else b5p W H i
def b03(W H i e:Int):Int:=if b5p W H i=0 then(if b3t (ceX W H i) (ceY W H i) (ceQ W H i) e=0 then c41 W H (nbX (ceX W H i) (ceY W H i) (ceQ W H i) e) (nbY (ceX W H i) (ceY W H i) (ceQ W H i) e) (nbQ (ceX W H i) (ceY W H i) (ceQ W H i) e)else 0)else 0
theorem c6c(W H i:Int):0≤ceQ W H i∧ceQ W H i≤3:=by
 unfold ceQ;split<;>omega
theorem g20{X Y Q e:Int}(h1:0≤Q)(h3:0≤e):0≤nbQ X Y Q e∧nbQ X Y Q e≤3:=by
 unfold nbQ
 split
 ·rename_i h
  unfold b3t at h
  split at h
  ·rename_i hc
   have:=b2x hc.1
   have:=j1a h1 Dt h3 hc.2
   omega
  ·cases h
 ·omega
abbrev b31:FuncId:=15
def b1i:Kon
 | [.agg [.int .i64 W,.int .i64 H],.int .i64 i,.int .u8 e]=>some (0≤e,.tup [.int .i64 (b03 W H i e),.int .i64 (b0g W H i e)])
 |_=>none
def c8y:Fam:=⟨Int×Int×Int×Int,fun(W,H,i,e)=>[.agg [.int .i64 W,.int .i64 H],.int .i64 i,.int .u8 e],fun(_,_,_,e)=>0≤e,
 fun(W,H,i,e)=>.tup [.int .i64 (b03 W H i e),.int .i64 (b0g W H i e)]⟩
theorem b2f:PS 15 b1i:=by
 refine con [(39,b3j),(40,b16),(41,kId)] (by simpa using⟨c0c,b39,pId⟩) c8y (fun _ _=>none) b1i ?_ ?_ Go.Proofs.Tryz.func15 Du Du Du ?_
 ·intro args pre s h hp
  unfold b1i at h
  split at h
  ·rename_i W H i e;cases h;exact⟨(W,H,i,e),by simp[c8y,b2h,SV.le2,SV.le1,b24,SV.le0],hp,rfl⟩
  ·cases h
 ·exact Bw
 ·rintro⟨W,H,i,e⟩ he
  replace he:0≤e:=he
  refine wlk _ ?_;(repeat' first|constructor|refine Iu fun hu=> ?_|intro h);all_goals refine Lm ?_
  all_goals(try exact he)
  all_goals(try exact(c6c W H i).1)
  all_goals(try exact⟨(c6c W H i).1,he⟩)
  all_goals(try exact(g20 (c6c W H i).1 he).1)
  all_goals(simp at h;(try rename_i h0;simp at h0);simp[b0g,b03, *])
abbrev f5s:FuncId:=199
def d04:Kon
 | [.agg [.int .i64 X,.int .i64 Y,.int .u8 _]]=>some (-5000≤X∧X≤5000∧ -5000≤Y∧Y≤5000,.agg [.int .i64 (2*X+1),.int .i64 (2*Y+1)])
 |_=>none
def g28:Fam:=⟨Int×Int×Int,fun(X,Y,Q)=>[.agg [.int .i64 X,.int .i64 Y,.int .u8 Q]],fun(X,Y,_)=> -5000≤X∧X≤5000∧ -5000≤Y∧Y≤5000,fun(X,Y,_)=>.agg [.int .i64 (2*X+1),.int .i64 (2*Y+1)]⟩
theorem j0t:PS f5s d04:=by
 refine con [] Dv g28 (fun _ _=>none) d04 ?_ ?_ Go.Proofs.Tryz.func199 Du Du Du ?_
 ·intro args pre s h hp
  unfold d04 at h
  split at h
  ·rename_i X Y Q;cases h;exact⟨(X,Y,Q),by simp[g28,b2h,SV.le2,SV.le1,b24,SV.le0],hp,rfl⟩
  ·cases h
 ·exact Bu
 ·rintro⟨X,Y,Q⟩ hp
  replace hp: -5000≤X∧X≤5000∧ -5000≤Y∧Y≤5000:=hp
  refine wlk _ ?_;(repeat' first|constructor|refine Iu fun hu=> ?_|intro h);all_goals refine Lm ?_
  all_goals(first|rfl|exact A4)
def o1(Q:Int):Int:=tb [0,2,2,0] Q.toNat
def o2(Q:Int):Int:=tb [2,2,0,0] Q.toNat
def o3(Q:Int):Int:=tb [0,0,2,2] Q.toNat
theorem o_le{Q:Int}(h0:0≤Q)(h1:Q≤3):(0≤o1 Q∧o1 Q≤2)∧(0≤o2 Q∧o2 Q≤2)∧0≤o3 Q∧o3 Q≤2:=by
 have:∀q:Nat,q<4→(0≤o1 q∧o1 q≤2)∧(0≤o2 q∧o2 q≤2)∧0≤o3 q∧o3 q≤2:=Dy
 have:=this Q.toNat Dt
 rwa[Kw h0]at this
def ICorn:Nat→Option Inv
 |6=>some (.unroll 4)
 |_=>none
abbrev f2a:FuncId:=186
def c49:Kon
 | [.agg [.int .i64 X,.int .i64 Y,.int .u8 Q]]=>some (0≤Q,.tup [.agg [.int .i64 (keep (b0q X Y Q) (1+2*X)),.int .i64 (keep (b0q X Y Q) (1+2*Y)),.int .i64 (keep (b0q X Y Q) (o1 Q+2*X)),.int .i64 (keep (b0q X Y Q) (o1 Q+2*Y)),.int .i64 (keep (b0q X Y Q) (o2 Q+2*X)),.int .i64 (keep (b0q X Y Q) (o3 Q+2*Y))],.int .i64 (b0q X Y Q)])
 |_=>none
def f0j:Fam:=⟨Int×Int×Int,fun(X,Y,Q)=>[.agg [.int .i64 X,.int .i64 Y,.int .u8 Q]],fun(_,_,Q)=>0≤Q,fun(X,Y,Q)=>.tup [.agg [.int .i64 (keep (b0q X Y Q) (1+2*X)),.int .i64 (keep (b0q X Y Q) (1+2*Y)),.int .i64 (keep (b0q X Y Q) (o1 Q+2*X)),.int .i64 (keep (b0q X Y Q) (o1 Q+2*Y)),.int .i64 (keep (b0q X Y Q) (o2 Q+2*X)),.int .i64 (keep (b0q X Y Q) (o3 Q+2*Y))],.int .i64 (b0q X Y Q)]⟩
theorem g30:PS f2a c49:=by
 refine con [(b3r,b14)] H0 f0j (fun _=>ICorn) c49 ?_ ?_ Go.Proofs.Tryz.func186 Du Du Du ?_
 ·intro args pre s h hp
  unfold c49 at h
  split at h
  ·rename_i X Y Q;cases h;exact⟨(X,Y,Q),by simp[f0j,b2h,SV.le2,SV.le1,b24,SV.le0],hp,rfl⟩
  ·cases h
 ·exact Bu
 ·rintro⟨X,Y,Q⟩ hp
  replace hp:0≤Q:=hp
  refine wlk _ ?_;(repeat' first|constructor|refine Iu fun hu=> ?_|intro h);all_goals refine Lm ?_
  all_goals(have c0:=g71 X Y Q;have c1:=@b2x X Y Q;have o:=@o_le Q hp)
  all_goals(try simp only[inK])
  all_goals(first
   |(intros;decide)
   |(change keep _ _=keep _ _;rfl)
   |(change _=keep (b0q X Y Q) (o1 Q+2*X);simp[keep]at h⊢;rw[Iw h];rfl)
   |(change _=keep (b0q X Y Q) (o1 Q+2*Y);simp[keep]at h⊢;rw[Iw h];rfl)
   |(change _=keep (b0q X Y Q) (o2 Q+2*X);simp[keep]at h⊢;rw[Iw h];rfl)
   |(change _=keep (b0q X Y Q) (o3 Q+2*Y);simp[keep]at h⊢;rw[Iw h];rfl)
   |(simp only[o1,o2,o3]at o;grind[keep]))
def crn(X Y Q:Int):List SV:=[.int .i64 (keep (b0q X Y Q) (1+2*X)),.int .i64 (keep (b0q X Y Q) (1+2*Y)),.int .i64 (keep (b0q X Y Q) (o1 Q+2*X)),.int .i64 (keep (b0q X Y Q) (o1 Q+2*Y)),.int .i64 (keep (b0q X Y Q) (o2 Q+2*X)),.int .i64 (keep (b0q X Y Q) (o3 Q+2*Y))]
def sd1(k C X Y Q:Int):Nat→Bool
 |0=>decide (0<d25 k C (keep (b0q X Y Q) (1+2*X)) (keep (b0q X Y Q) (1+2*Y)))
 |1=>decide (0<d25 k C (keep (b0q X Y Q) (o1 Q+2*X)) (keep (b0q X Y Q) (o1 Q+2*Y)))
 |_=>decide (0<d25 k C (keep (b0q X Y Q) (o2 Q+2*X)) (keep (b0q X Y Q) (o3 Q+2*Y)))
def sd3(k C X Y Q:Int):Bool:=or (sd1 k C X Y Q 0) (or (sd1 k C X Y Q 1) (sd1 k C X Y Q 2))
def c42(k C X Y Q:Int):Int:=if b0q X Y Q=0∧b08 k C=0 then 0 else 1
def d5k(k C X Y Q:Int):Int:=if c42 k C X Y Q=0 then(bif sd3 k C X Y Q then 1 else 0)else 0
def ISide:Int×Int×Int×Int×Int→Nat→Option Inv
 |(k,C,X,Y,Q),5=>some {β:=Nat,ok:=fun i=>i≤3∧c42 k C X Y Q=0∧∀j,j<i→sd1 k C X Y Q j=false,st:=fun i=>⟨[⟨23,none,.int .i64 i⟩,⟨22,none,.agg (crn X Y Q)⟩,⟨5,none,.int .i64 0⟩,⟨4,none,.int .i64 0⟩,⟨2,none,.own 0 0⟩],[.cells 89 [.int .u8 k,.int .i64 C],.cells 54 [.int .i64 X,.int .i64 Y,.int .u8 Q],.cells 296 (crn X Y Q)]⟩,μ:=fun i=>3-i}
 |_,_=>none
theorem f3e{k C X Y Q:Int}(h:c42 k C X Y Q=0):b0q X Y Q=0∧b08 k C=0:=by
 unfold c42 at h
 split at h
 ·assumption
 ·cases h
abbrev c65:FuncId:=115
def b86:Kon
 | [.agg [.int .u8 k,.int .i64 C],.agg [.int .i64 X,.int .i64 Y,.int .u8 Q]]=>some (0≤Q,.tup [.int .i64 (d5k k C X Y Q),.int .i64 (c42 k C X Y Q)])
 |_=>none
def d5u:Fam:=⟨Int×Int×Int×Int×Int,fun(k,C,X,Y,Q)=>[.agg [.int .u8 k,.int .i64 C],.agg [.int .i64 X,.int .i64 Y,.int .u8 Q]],fun(_,_,_,_,Q)=>0≤Q,fun(k,C,X,Y,Q)=>.tup [.int .i64 (d5k k C X Y Q),.int .i64 (c42 k C X Y Q)]⟩
theorem d4c:PS c65 b86:=by
 refine con [(f2a,c49),(b9c,b5v),(f64,d0t)] (by simpa using⟨g30,c2a,j5j⟩) d5u ISide b86 ?_ ?_ Go.Proofs.Tryz.func115 Du Du Du ?_
 ·intro args pre s h hp
  unfold b86 at h
  split at h
  ·rename_i k C X Y Q;cases h;exact⟨(k,C,X,Y,Q),by simp[d5u,b2h,SV.le2,SV.le1,b24,SV.le0],hp,rfl⟩
  ·cases h
 ·exact Bv
 ·rintro⟨k,C,X,Y,Q⟩ hp
  replace hp:0≤Q:=hp
  refine wlk _ ?_;(repeat' first|constructor|refine Iu fun hu=> ?_|intro h);all_goals refine Lm ?_
  all_goals(first
   |exact hp
   |(refine⟨(0:Nat),⟨Dy,by grind[c42],fun j hj=>absurd hj Dt⟩,?_,?_⟩)
   |grind[d5k,c42])
  ·refine wlk _ ?_;(repeat' first|constructor|refine Iu fun hu=> ?_|intro h);all_goals refine Lm ?_
   all_goals first|exact A5|skip
  ·intro i hi
   obtain⟨cw,fj,be⟩:=hi
   have l1:=b6k (f3e fj).2
   have:i=0∨i=1∨i=2∨i=3:=Dt
   rcases this with rfl|rfl|rfl|rfl
   all_goals refine wlk _ ?_;(repeat' first|constructor|refine Iu fun hu=> ?_|intro h);all_goals refine Lm ?_
   all_goals(first
    |decide
    |exact⟨l1.1,l1.2.1⟩
    |exact A4
    |exact fj.symm
    |(have q:sd3 k C X Y Q=true:=by
       first
       |(have h:sd1 k C X Y Q 0=true:=h;simp[sd3,h])
       |(have h:sd1 k C X Y Q 1=true:=h;simp[sd3,h])
       |(have h:sd1 k C X Y Q 2=true:=h;simp[sd3,h])
      simp[d5k,fj,q])
    |(have q:sd3 k C X Y Q=false:=by simp[sd3,be 0 Dt,be 1 Dt,be 2 Dt]
      simp[d5k,fj,q])
    |(refine⟨(1:Nat),⟨Dy,fj,fun j hj=> ?_⟩,Dy,?_⟩;(have:j=0:=Dt);subst this;exact h)
    |(refine⟨(2:Nat),⟨Dy,fj,fun j hj=> ?_⟩,Dy,?_⟩;(by_cases e:j=1;(subst e;exact h);exact be j Dt))
    |(refine⟨(3:Nat),⟨Dy,fj,fun j hj=> ?_⟩,Dy,?_⟩;(by_cases e:j=2;(subst e;exact h);exact be j Dt)))
   all_goals refine wlk _ ?_;(repeat' first|constructor|refine Iu fun hu=> ?_|intro h);all_goals refine Lm ?_
   all_goals first|exact Aq
def b3f(a b:Int):Int:=if a<b then -1 else if a>b then 1 else 0
abbrev nNaN:FuncId:=185
def kNaN:Kon
 | [.int .i64 _]=>some (True,.bool false)
 |_=>none
def FNaN:Fam:=⟨Int,fun a=>[.int .i64 a],fun _=>True,fun _=>.bool false⟩
theorem pNaN:PS nNaN kNaN:=by
 refine con [] Dv FNaN (fun _ _=>none) kNaN ?_ ?_ Go.Proofs.Tryz.func185 Du Du Du ?_
 ·intro args pre s h hp
  unfold kNaN at h
  split at h
  ·rename_i a;cases h;exact⟨a,by simp[FNaN,b2h,SV.le2,SV.le1,SV.le0],hp,rfl⟩
  ·cases h
 ·exact Bu
 ·intro(a:Int) hp
  replace hp:True:=hp
  refine wlk _ ?_;(repeat' first|constructor|refine Iu fun hu=> ?_|intro h);all_goals refine Lm ?_
  all_goals simp
abbrev nNaN8:FuncId:=194
def g5q:Kon
 | [.int .u8 _]=>some (True,.bool false)
 |_=>none
def FNaN8:Fam:=⟨Int,fun a=>[.int .u8 a],fun _=>True,fun _=>.bool false⟩
theorem pNaN8:PS nNaN8 g5q:=by
 refine con [] Dv FNaN8 (fun _ _=>none) g5q ?_ ?_ Go.Proofs.Tryz.func194 Du Du Du ?_
 ·intro args pre s h hp
  unfold g5q at h
  split at h
  ·rename_i a;cases h;exact⟨a,by simp[FNaN8,b2h,SV.le2,SV.le1,SV.le0],hp,rfl⟩
  ·cases h
 ·exact Bu
 ·intro(a:Int) hp
  replace hp:True:=hp
  refine wlk _ ?_;(repeat' first|constructor|refine Iu fun hu=> ?_|intro h);all_goals refine Lm ?_
  all_goals simp
abbrev nNaNk:FuncId:=196
def g64:Kon
 | [.int .u8 _]=>some (True,.bool false)
 |_=>none
def FNaNk:Fam:=⟨Int,fun a=>[.int .u8 a],fun _=>True,fun _=>.bool false⟩
theorem pNaNk:PS nNaNk g64:=by
 refine con [] Dv FNaNk (fun _ _=>none) g64 ?_ ?_ Go.Proofs.Tryz.func196 Du Du Du ?_
 ·intro args pre s h hp
  unfold g64 at h
  split at h
  ·rename_i a;cases h;exact⟨a,by simp[FNaNk,b2h,SV.le2,SV.le1,SV.le0],hp,rfl⟩
  ·cases h
 ·exact Bu
 ·intro(a:Int) hp
  replace hp:True:=hp
  refine wlk _ ?_;(repeat' first|constructor|refine Iu fun hu=> ?_|intro h);all_goals refine Lm ?_
  all_goals simp
abbrev j0z:FuncId:=114
def g6k:Kon
 | [.int .i64 a,.int .i64 b]=>some (True,.int .i64 (b3f a b))
 |_=>none
def FCmp:Fam:=⟨Int×Int,fun(a,b)=>[.int .i64 a,.int .i64 b],fun(_,_)=>True,fun(a,b)=>.int .i64 (b3f a b)⟩
theorem pCmp:PS j0z g6k:=by
 refine con [(nNaN,kNaN)] (by simpa using pNaN) FCmp (fun _ _=>none) g6k ?_ ?_ Go.Proofs.Tryz.func114 Du Du Du ?_
 ·intro args pre s h hp
  unfold g6k at h
  split at h
  ·rename_i a b;cases h;exact⟨(a,b),by simp[FCmp,b2h,SV.le2,SV.le1,SV.le0],hp,rfl⟩
  ·cases h
 ·exact Bv
 ·rintro⟨a,b⟩ hp
  replace hp:True:=hp
  refine wlk _ ?_;(repeat' first|constructor|refine Iu fun hu=> ?_|intro h);all_goals refine Lm ?_
  all_goals(first|(simp at h;done)|(rename_i h0;simp at h0;done)|(simp at h;(try rename_i h0;simp at h0);simp[b3f, *]<;>omega))
abbrev j27:FuncId:=129
def f9t:Kon
 | [.int .u8 a,.int .u8 b]=>some (True,.int .i64 (b3f a b))
 |_=>none
def FCmp8:Fam:=⟨Int×Int,fun(a,b)=>[.int .u8 a,.int .u8 b],fun(_,_)=>True,fun(a,b)=>.int .i64 (b3f a b)⟩
theorem pCmp8:PS j27 f9t:=by
 refine con [(nNaN8,g5q)] (by simpa using pNaN8) FCmp8 (fun _ _=>none) f9t ?_ ?_ Go.Proofs.Tryz.func129 Du Du Du ?_
 ·intro args pre s h hp
  unfold f9t at h
  split at h
  ·rename_i a b;cases h;exact⟨(a,b),by simp[FCmp8,b2h,SV.le2,SV.le1,SV.le0],hp,rfl⟩
  ·cases h
 ·exact Bv
 ·rintro⟨a,b⟩ hp
  replace hp:True:=hp
  refine wlk _ ?_;(repeat' first|constructor|refine Iu fun hu=> ?_|intro h);all_goals refine Lm ?_
  all_goals(first|(simp at h;done)|(rename_i h0;simp at h0;done)|(simp at h;(try rename_i h0;simp at h0);simp[b3f, *]<;>omega))
abbrev nCmpk:FuncId:=135
def g32:Kon
 | [.int .u8 a,.int .u8 b]=>some (True,.int .i64 (b3f a b))
 |_=>none
def FCmpk:Fam:=⟨Int×Int,fun(a,b)=>[.int .u8 a,.int .u8 b],fun(_,_)=>True,fun(a,b)=>.int .i64 (b3f a b)⟩
theorem pCmpk:PS nCmpk g32:=by
 refine con [(nNaNk,g64)] (by simpa using pNaNk) FCmpk (fun _ _=>none) g32 ?_ ?_ Go.Proofs.Tryz.func135 Du Du Du ?_
 ·intro args pre s h hp
  unfold g32 at h
  split at h
  ·rename_i a b;cases h;exact⟨(a,b),by simp[FCmpk,b2h,SV.le2,SV.le1,SV.le0],hp,rfl⟩
  ·cases h
 ·exact Bv
 ·rintro⟨a,b⟩ hp
  replace hp:True:=hp
  refine wlk _ ?_;(repeat' first|constructor|refine Iu fun hu=> ?_|intro h);all_goals refine Lm ?_
  all_goals(first|(simp at h;done)|(rename_i h0;simp at h0;done)|(simp at h;(try rename_i h0;simp at h0);simp[b3f, *]<;>omega))
abbrev nOr:FuncId:=108
def tcB(X Y Q U V R e:Int):Bool:=and (decide (b3t X Y Q e=0)) (and (decide (nbX X Y Q e=U)) (and (decide (nbY X Y Q e=V)) (decide (nbQ X Y Q e=R))))
def tcOk(X Y Q U V R:Int):Bool:=and (decide (b0q X Y Q=0)) (decide (b0q U V R=0))
def tcV(X Y Q U V R:Int)(l:List Int):Int:=match l with
 | []=>3
 |e::l=>bif tcB X Y Q U V R e then e else tcV X Y Q U V R l
def f7k(X Y Q U V R:Int):Int:=bif tcOk X Y Q U V R then(if tcV X Y Q U V R [0,1,2]=3 then 7 else 0)else 1
def d5f(X Y Q U V R:Int):Int:=bif tcOk X Y Q U V R then(if tcV X Y Q U V R [0,1,2]=3 then 0 else tcV X Y Q U V R [0,1,2])else 0
theorem j47{X Y Q U V R:Int}(i:Nat)(hi:i<3)(h:tcB X Y Q U V R i=true)(hn:∀j:Nat,j<i→tcB X Y Q U V R j=false):tcV X Y Q U V R [0,1,2]=i:=by
 have:i=0∨i=1∨i=2:=Dt
 rcases this with rfl|rfl|rfl
 ·simp only[tcV]
  rw[show tcB X Y Q U V R 0=true from h];rfl
 ·simp only[tcV]
  rw[show tcB X Y Q U V R 0=false from hn 0 Dt,show tcB X Y Q U V R 1=true from h];rfl
 ·simp only[tcV]
  rw[show tcB X Y Q U V R 0=false from hn 0 Dt,show tcB X Y Q U V R 1=false from hn 1 Dt,show tcB X Y Q U V R 2=true from h];rfl
theorem g5b{X Y Q U V R:Int}(hn:∀j:Nat,j<3→tcB X Y Q U V R j=false):tcV X Y Q U V R [0,1,2]=3:=by
 simp only[tcV]
 rw[show tcB X Y Q U V R 0=false from hn 0 Dt,show tcB X Y Q U V R 1=false from hn 1 Dt,show tcB X Y Q U V R 2=false from hn 2 Dt];rfl
def ITouch:Int×Int×Int×Int×Int×Int→Nat→Option Inv
 |(X,Y,Q,U,V,R),4=>some {β:=Nat,ok:=fun i=>i≤3∧tcOk X Y Q U V R=true∧∀j:Nat,j<i→tcB X Y Q U V R j=false,st:=fun i=>⟨[⟨17,none,.int .u8 i⟩,⟨5,none,.int .i64 0⟩,⟨4,none,.int .u8 0⟩,⟨3,none,.own 1 0⟩,⟨2,none,.own 0 0⟩],[.cells 54 [.int .i64 X,.int .i64 Y,.int .u8 Q],.cells 54 [.int .i64 U,.int .i64 V,.int .u8 R]]⟩,μ:=fun i=>3-i}
 |_,_=>none
abbrev g9m:FuncId:=131
def d9b:Kon
 | [.agg [.int .i64 X,.int .i64 Y,.int .u8 Q],.agg [.int .i64 U,.int .i64 V,.int .u8 R]]=>some (0≤Q∧0≤R,.tup [.int .u8 (d5f X Y Q U V R),.int .i64 (f7k X Y Q U V R)])
 |_=>none
def g7r:Fam:=⟨Int×Int×Int×Int×Int×Int,fun(X,Y,Q,U,V,R)=>[.agg [.int .i64 X,.int .i64 Y,.int .u8 Q],.agg [.int .i64 U,.int .i64 V,.int .u8 R]],fun(_,_,Q,_,_,R)=>0≤Q∧0≤R,fun(X,Y,Q,U,V,R)=>.tup [.int .u8 (d5f X Y Q U V R),.int .i64 (f7k X Y Q U V R)]⟩
theorem pTouch:PS g9m d9b:=by
 refine con [(b3r,b14),(b5a,b16)] (by simpa using⟨b3h,b39⟩) g7r ITouch d9b ?_ ?_ Go.Proofs.Tryz.func131 Du Du Du ?_
 ·intro args pre s h hp
  unfold d9b at h
  split at h
  ·rename_i X Y Q U V R;cases h;exact⟨(X,Y,Q,U,V,R),by simp[g7r,b2h,SV.le2,SV.le1,b24,SV.le0],hp,rfl⟩
  ·cases h
 ·exact Bv
 ·rintro⟨X,Y,Q,U,V,R⟩ hp
  replace hp:0≤Q∧0≤R:=hp
  refine wlk _ ?_;(repeat' first|constructor|refine Iu fun hu=> ?_|intro h);all_goals refine Lm ?_
  all_goals(first
   |(refine⟨(0:Nat),⟨Dy,by grind[tcOk],fun j hj=>absurd hj Dt⟩,?_,?_⟩)
   |grind[d5f,f7k,tcOk])
  ·refine wlk _ ?_;(repeat' first|constructor|refine Iu fun hu=> ?_|intro h);all_goals refine Lm ?_
   all_goals first|exact A5|skip
  ·intro i hi
   obtain⟨cw,fj,be⟩:=hi
   refine wlk _ ?_;(repeat' first|constructor|refine Iu fun hu=> ?_|intro h);all_goals refine Lm ?_
   all_goals(first
    |exact⟨hp.1,Dt⟩
    |(have i3:i<3:=by grind
      first
      |(have q:tcB X Y Q U V R i=true:=by simpa[tcB]using h
        have t:=j47 i i3 q be
        grind[d5f,f7k])
      |exact A4
      |(have q:tcB X Y Q U V R i=false:=by(have q:=h;rw[←Bool.not_eq_true]at q⊢;intro q2;apply q;simpa[tcB]using q2)
        refine⟨i+1,⟨Dt,fj,fun j hj=> ?_⟩,Dt,?_⟩
        ·by_cases e:j=i
         ·subst e;exact q
         ·exact be j Dt))
    |(have i3:i=3:=by grind
      subst i3
      have t:=g5b be
      grind[d5f,f7k]))
   all_goals refine wlk _ ?_;(repeat' first|constructor|refine Iu fun hu=> ?_|intro h);all_goals refine Lm ?_
   all_goals first|exact Aq
def lqK(Q:Int):Int:=tb [2,1,2,1] Q.toNat
def lqB(Q:Int):Int:=tb [0,1,1,0] Q.toNat
theorem lq_le{Q:Int}(h0:0≤Q)(h1:Q≤3):(lqK Q=1∨lqK Q=2)∧0≤lqB Q∧lqB Q≤1:=by
 have:∀q:Nat,q<4→(lqK q=1∨lqK q=2)∧0≤lqB q∧lqB q≤1:=Dy
 have:=this Q.toNat Dt
 rwa[Kw h0]at this
def ciK(Q e:Int):Int:=if e=1 then 3 else if e=2 then 4 else lqK Q
def ciC(X Y Q e:Int):Int:=if e=1 then X+Y+1 else if e=2 then Y-X else if lqK Q=2 then Y+lqB Q else X+lqB Q
def c87(X Y Q e:Int):Int:=if b0q X Y Q=0∧e≤2 then(if b08 (ciK Q e) (ciC X Y Q e)=0 then 0 else 3)else 1
abbrev c7b:FuncId:=132
def b88:Kon
 | [.agg [.int .i64 X,.int .i64 Y,.int .u8 Q],.int .u8 e]=>some (0≤Q∧0≤e,.tup [.agg [.int .u8 (keep (c87 X Y Q e) (ciK Q e)),.int .i64 (keep (c87 X Y Q e) (ciC X Y Q e))],.int .i64 (c87 X Y Q e)])
 |_=>none
def d43:Fam:=⟨Int×Int×Int×Int,fun(X,Y,Q,e)=>[.agg [.int .i64 X,.int .i64 Y,.int .u8 Q],.int .u8 e],fun(_,_,Q,e)=>0≤Q∧0≤e,fun(X,Y,Q,e)=>.tup [.agg [.int .u8 (keep (c87 X Y Q e) (ciK Q e)),.int .i64 (keep (c87 X Y Q e) (ciC X Y Q e))],.int .i64 (c87 X Y Q e)]⟩
theorem d3m:PS c7b b88:=by
 refine con [(b3r,b14),(b9c,b5v)] (by simpa using⟨b3h,c2a⟩) d43 (fun _ _=>none) b88 ?_ ?_ Go.Proofs.Tryz.func132 Du Du Du ?_
 ·intro args pre s h hp
  unfold b88 at h
  split at h
  ·rename_i X Y Q e;cases h;exact⟨(X,Y,Q,e),by simp[d43,b2h,SV.le2,SV.le1,b24,SV.le0],hp,rfl⟩
  ·cases h
 ·exact Bv
 ·rintro⟨X,Y,Q,e⟩ hp
  replace hp:0≤Q∧0≤e:=hp
  refine wlk _ ?_;(repeat' first|constructor|refine Iu fun hu=> ?_|intro h);all_goals refine Lm ?_
  all_goals(have c1:=@b2x X Y Q;have o:=@lq_le Q hp.1)
  all_goals(try simp only[inK])
  all_goals(simp only[lqK,lqB]at o)
  all_goals grind[c87,ciK,ciC,keep,lqK,lqB]
def g3s(a b c d e f:Int):Int:=if b3f a b=0 then(if b3f c d=0 then b3f e f else b3f c d)else b3f a b
def g9y(a b c d e f:Int)(i:Nat):List SV:=[.int .i64 (tb [a,c,e] i),.int .i64 (tb [b,d,f] i)]
abbrev nOrd:FuncId:=88
def kOrd:Kon
 | [.sl 2 3 g _]=>match g 0,g 1,g 2 with
   | [.int .i64 a,.int .i64 b],[.int .i64 c,.int .i64 d],[.int .i64 e,.int .i64 f]=>some (True,.int .i64 (g3s a b c d e f))
   |_,_,_=>none
 |_=>none
def FOrd:Fam:=⟨Int×Int×Int×Int×Int×Int,fun(a,b,c,d,e,f)=>[.sl 2 3 (g9y a b c d e f) none],fun _=>True,fun(a,b,c,d,e,f)=>.int .i64 (g3s a b c d e f)⟩
def IOrd(a b c d e f:Int):Nat→Option Inv
 |2=>some {β:=Nat,ok:=fun i=>i≤3∧∀j,j<i→b3f (tb [a,c,e] j) (tb [b,d,f] j)=0,st:=fun i=>⟨[⟨8,none,.int .i64 i⟩,⟨7,none,.int .i64 3⟩,⟨6,none,.sl 2 3 (g9y a b c d e f) none⟩,⟨2,none,.int .i64 0⟩],[]⟩,μ:=fun i=>3-i}
 |_=>none
theorem pOrd:PS nOrd kOrd:=by
 refine con [(j0z,g6k)] (by simpa using pCmp) FOrd (fun(a,b,c,d,e,f)=>IOrd a b c d e f) kOrd ?_ ?_ Go.Proofs.Tryz.func88 Du Du Du ?_
 ·intro args pre s h hp
  unfold kOrd at h
  split at h
  ·split at h
   ·rename_i g cp _ _ _ a b c d e f h0 h1 h2
    cases h
    refine⟨(a,b,c,d,e,f),?_,Ix,rfl⟩
    simp only[FOrd,b2h,SV.le2,SV.le1,SV.le0,b3q,and_true,Mp,K5]
    refine d1p ?_
    intro i hi
    match i,hi with
    |0,_=>exact h0
    |1,_=>exact h1
    |2,_=>exact h2
   ·cases h
  ·cases h
 ·exact Bu
 ·rintro⟨a,b,c,d,e,f⟩-
  refine wlk _ ?_;(repeat' first|constructor|refine Iu fun hu=> ?_|intro h);all_goals refine Lm ?_
  refine⟨(0:Nat),⟨Dt,fun j hj=>Dt⟩,?_,?_⟩
  ·refine wlk _ ?_;(repeat' first|constructor|refine Iu fun hu=> ?_|intro h);all_goals refine Lm ?_
   all_goals first|exact A5
  ·intro i hi
   obtain⟨cw,be⟩:=hi
   refine wlk _ ?_;(repeat' first|constructor|refine Iu fun hu=> ?_|intro h);all_goals refine Lm ?_
   all_goals(first
    |decide
    |exact⟨Dt,by grind⟩
    |(simp only[inK];grind)
    |(have i3:i<3:=by grind
      have q:b3f (tb [a,c,e] i) (tb [b,d,f] i)=0:=E1
      refine⟨i+1,⟨Dt,fun j hj=> ?_⟩,Dt,?_⟩
      ·by_cases e:j=i
       ·subst e;exact q
       ·exact be j Dt)
    |(have i3:i<3:=by grind
      have q:¬b3f (tb [a,c,e] i) (tb [b,d,f] i)=0:=E1
      have:i=0∨i=1∨i=2:=Dt
      rcases this with rfl|rfl|rfl
      ·simp[tb]at q;simp[g3s,q,tb]
      ·have:=be 0 Dt
       simp[tb]at q this;simp[g3s,q,tb,this]
      ·have:=be 0 Dt
       have t:=be 1 Dt
       simp[tb]at q this t;simp[g3s,tb,this,t])
    |(have i3:i=3:=by grind
      subst i3
      have u:=be 0 Dt
      have t:=be 1 Dt
      have v:=be 2 Dt
      simp[tb]at u t v;simp[g3s,u,t,v])
    |skip)
   all_goals refine wlk _ ?_;(repeat' first|constructor|refine Iu fun hu=> ?_|intro h);all_goals refine Lm ?_
   all_goals first|exact Aq
def b0v(X Y Q U V R:Int):Int:=g3s Y V X U Q R
abbrev b33:FuncId:=54
def b1t:Kon
 | [.agg [.int .i64 X,.int .i64 Y,.int .u8 Q],.agg [.int .i64 U,.int .i64 V,.int .u8 R]]=>some (inK .u8 Q∧inK .u8 R,.int .i64 (b0v X Y Q U V R))
 |_=>none
def c3k:Fam:=⟨Int×Int×Int×Int×Int×Int,fun(X,Y,Q,U,V,R)=>[.agg [.int .i64 X,.int .i64 Y,.int .u8 Q],.agg [.int .i64 U,.int .i64 V,.int .u8 R]],fun(_,_,Q,_,_,R)=>inK .u8 Q∧inK .u8 R,fun(X,Y,Q,U,V,R)=>.int .i64 (b0v X Y Q U V R)⟩
theorem b8s:PS b33 b1t:=by
 refine con [(nOrd,kOrd)] (by simpa using pOrd) c3k (fun _ _=>none) b1t ?_ ?_ Go.Proofs.Tryz.func54 Du Du Du ?_
 ·intro args pre s h hp
  unfold b1t at h
  split at h
  ·rename_i X Y Q U V R;cases h;exact⟨(X,Y,Q,U,V,R),by simp[c3k,b2h,SV.le2,SV.le1,b24,SV.le0],hp,rfl⟩
  ·cases h
 ·exact Bv
 ·rintro⟨X,Y,Q,U,V,R⟩ hp
  replace hp:inK .u8 Q∧inK .u8 R:=hp
  refine wlk _ ?_;(repeat' first|constructor|refine Iu fun hu=> ?_|intro h);all_goals refine Lm ?_
  all_goals(first|rfl|(simp only[inK]at*;omega))
def b15(W H i e:Int):Int:=if b0g W H i e=0 then min i (b03 W H i e)else 0
def b1v(W H i e:Int):Int:=if b0g W H i e=0 then e else 0
abbrev g0d:FuncId:=142
def d6z:Kon
 | [.agg [.int .i64 W,.int .i64 H],.int .i64 i,.int .u8 e]=>some (0≤e,.tup [.agg [.int .i64 (b15 W H i e),.int .u8 (b1v W H i e)],.int .i64 (b0g W H i e)])
 |_=>none
def FName:Fam:=⟨Int×Int×Int×Int,fun(W,H,i,e)=>[.agg [.int .i64 W,.int .i64 H],.int .i64 i,.int .u8 e],fun(_,_,_,e)=>0≤e,fun(W,H,i,e)=>.tup [.agg [.int .i64 (b15 W H i e),.int .u8 (b1v W H i e)],.int .i64 (b0g W H i e)]⟩
theorem g2s:PS g0d d6z:=by
 refine con [(b31,b1i)] (by simpa using b2f) FName (fun _ _=>none) d6z ?_ ?_ Go.Proofs.Tryz.func142 Du Du Du ?_
 ·intro args pre s h hp
  unfold d6z at h
  split at h
  ·rename_i W H i e;cases h;exact⟨(W,H,i,e),by simp[FName,b2h,SV.le2,SV.le1,b24,SV.le0],hp,rfl⟩
  ·cases h
 ·exact Bw
 ·rintro⟨W,H,i,e⟩ hp
  replace hp:0≤e:=hp
  refine wlk _ ?_;(repeat' first|constructor|refine Iu fun hu=> ?_|intro h);all_goals refine Lm ?_
  all_goals(try exact hp)
  all_goals(simp at h;simp[b15,b1v,h])
abbrev j5a:FuncId:=143
def f7b:Kon
 | [.agg [.int .i64 a,.int .u8 b,.int .u8 _]]=>some (True,.agg [.int .i64 a,.int .u8 b])
 |_=>none
def FUnit:Fam:=⟨Int×Int×Int,fun(a,b,c)=>[.agg [.int .i64 a,.int .u8 b,.int .u8 c]],fun(_,_,_)=>True,fun(a,b,_)=>.agg [.int .i64 a,.int .u8 b]⟩
theorem pUnit:PS j5a f7b:=by
 refine con [] Dv FUnit (fun _ _=>none) f7b ?_ ?_ Go.Proofs.Tryz.func143 Du Du Du ?_
 ·intro args pre s h hp
  unfold f7b at h
  split at h
  ·rename_i a b c;cases h;exact⟨(a,b,c),by simp[FUnit,b2h,SV.le2,SV.le1,b24,SV.le0],hp,rfl⟩
  ·cases h
 ·exact Bu
 ·rintro⟨a,b,c⟩ hp
  replace hp:True:=hp
  refine wlk _ ?_;(repeat' first|constructor|refine Iu fun hu=> ?_|intro h);all_goals refine Lm ?_
def d0d(a b c d:Int):Int:=if a=c then b-d else a-c
abbrev f6a:FuncId:=144
def d46:Kon
 | [.agg [.int .i64 a,.int .u8 b],.agg [.int .i64 c,.int .u8 d]]=>some (inK .i64 (a-c)∧inK .u8 b∧inK .u8 d,.int .i64 (d0d a b c d))
 |_=>none
def g9x:Fam:=⟨Int×Int×Int×Int,fun(a,b,c,d)=>[.agg [.int .i64 a,.int .u8 b],.agg [.int .i64 c,.int .u8 d]],fun(a,b,c,d)=>inK .i64 (a-c)∧inK .u8 b∧inK .u8 d,fun(a,b,c,d)=>.int .i64 (d0d a b c d)⟩
theorem g94:PS f6a d46:=by
 refine con [] Dv g9x (fun _ _=>none) d46 ?_ ?_ Go.Proofs.Tryz.func144 Du Du Du ?_
 ·intro args pre s h hp
  unfold d46 at h
  split at h
  ·rename_i a b c d;cases h;exact⟨(a,b,c,d),by simp[g9x,b2h,SV.le2,SV.le1,b24,SV.le0],hp,rfl⟩
  ·cases h
 ·exact Bv
 ·rintro⟨a,b,c,d⟩ hp
  replace hp:inK .i64 (a-c)∧inK .u8 b∧inK .u8 d:=hp
  refine wlk _ ?_;(repeat' first|constructor|refine Iu fun hu=> ?_|intro h);all_goals refine Lm ?_
  all_goals(simp at h)
  all_goals(try(simp[d0d,h];done))
  all_goals(simp only[inK]at hp⊢;omega)
def isKB(k:Int):Bool:=decide (1≤k)&&decide (k≤3)
abbrev f7e:FuncId:=141
def d1e:Kon
 | [.int .u8 k]=>some (True,.bool (isKB k))
 |_=>none
def g22:Fam:=⟨Int,fun k=>[.int .u8 k],fun _=>True,fun k=>.bool (isKB k)⟩
theorem j43:PS f7e d1e:=by
 refine con [] Dv g22 (fun _ _=>none) d1e ?_ ?_ Go.Proofs.Tryz.func141 Du Du Du ?_
 ·intro args pre s h hp
  unfold d1e at h
  split at h
  ·rename_i k;cases h;exact⟨k,by simp[g22,b2h,SV.le2,SV.le1,SV.le0],hp,rfl⟩
  ·cases h
 ·exact Bu
 ·intro(k:Int) hp
  replace hp:True:=hp
  refine wlk _ ?_;(repeat' first|constructor|refine Iu fun hu=> ?_|intro h);all_goals refine Lm ?_
  all_goals rfl
abbrev c05:FuncId:=140
def d0n:Kon
 | [.agg [.int .i64 _,.int .u8 _,.int .u8 k]]=>some (True,.bool (!isKB k))
 |_=>none
def f89:Fam:=⟨Int×Int×Int,fun(a,b,k)=>[.agg [.int .i64 a,.int .u8 b,.int .u8 k]],fun(_,_,_)=>True,fun(_,_,k)=>.bool (!isKB k)⟩
theorem j3w:PS c05 d0n:=by
 refine con [(f7e,d1e)] (by simpa using j43) f89 (fun _ _=>none) d0n ?_ ?_ Go.Proofs.Tryz.func140 Du Du Du ?_
 ·intro args pre s h hp
  unfold d0n at h
  split at h
  ·rename_i a b k;cases h;exact⟨(a,b,k),by simp[f89,b2h,SV.le2,SV.le1,b24,SV.le0],hp,rfl⟩
  ·cases h
 ·exact Bu
 ·rintro⟨a,b,k⟩ hp
  replace hp:True:=hp
  refine wlk _ ?_;(repeat' first|constructor|refine Iu fun hu=> ?_|intro h);all_goals refine Lm ?_
def g2e(x:Cr):Bool:= !isKB x.k
def j04(p:Cr→Bool)(l:List Cr):Int:=match l.findIdx? p with
 |some i=>i
 |none=> -1
theorem g3c{p:Cr→Bool}{l:List Cr}{i:Nat}(hi:i<l.length)(h:∀j,j<i→p (l.getD j d0)=false)(hp:p (l.getD i d0)=true):j04 p l=i:=by
 have:l.findIdx? p=some i:=by
  rw[K0]
  refine⟨hi,?_,fun j hj=> ?_⟩
  ·simpa[It,hi]using hp
  ·have:=h j hj
   have bh:j<l.length:=Dt
   simpa[It,bh]using this
 simp[j04,this]
theorem f7g{p:Cr→Bool}{l:List Cr}(h:∀j,j<l.length→p (l.getD j d0)=false):j04 p l= -1:=by
 have:l.findIdx? p=none:=by
  rw[Kh]
  intro x hx
  obtain⟨j,hj,rfl⟩:=Jg.1 hx
  have:=h j hj
  simpa[It,hj]using this
 simp[j04,this]
theorem g53(p:Cr→Bool)(l:List Cr):decide (0≤j04 p l)=l.any p:=by
 unfold j04
 cases h:l.findIdx? p with
 |none=>
  have:=Kh.1 h
  have:l.any p=false:=by
   rw[Ji]
   intro x hx
   simpa using this x hx
  rw[this];rfl
 |some i=>
  have:=K0.1 h
  obtain⟨hi,hp,_⟩:=this
  have:l.any p=true:=Jc.2 ⟨_,Jn hi,hp⟩
  rw[this]
  simp
abbrev c9w:FuncId:=197
def b90:Kon
 | [x,.clo g []]=>if g=c05 then match f5z x with
   |some (n,f)=>some (d4p n f∧n≤100000,.int .i64 (j04 g2e (crL n f)))
   |none=>none
   else none
 |_=>none
def c8n:Fam:=⟨List Cr,fun l=>[.sl 3 l.length (b20 l) none,.clo c05 []],fun l=>l.length≤100000,fun l=>.int .i64 (j04 g2e l)⟩
def f51(l:List Cr):Nat→Option Inv
 |2=>some {β:=Nat,ok:=fun i=>i≤l.length∧∀j,j<i→g2e (l.getD j d0)=false,st:=fun i=>⟨[⟨8,none,.int .i64 i⟩,⟨7,none,.int .i64 l.length⟩,⟨0,none,.sl 3 l.length (b20 l) none⟩,⟨1,none,.clo c05 []⟩],[]⟩,μ:=fun i=>l.length-i}
 |_=>none
theorem f3y:PS c9w b90:=by
 refine con [(c05,d0n)] (by simpa using j3w) c8n (fun l=>f51 l) b90 ?_ ?_ Go.Proofs.Tryz.func197 Du Du Du ?_
 ·intro args pre s h hp
  unfold b90 at h
  split at h
  ·split at h
   ·rename_i hg
    subst hg
    split at h
    ·rename_i n f hx
     cases h
     exact⟨crL n f,⟨b2p (b8i hx hp.1),⟨rfl,rfl⟩,Ix⟩,by simp only[c8n,b32];exact hp.2,rfl⟩
    ·cases h
   ·cases h
  ·cases h
 ·exact Bv
 ·intro(l:List Cr) hp
  replace hp:l.length≤100000:=hp
  refine wlk _ ?_;(repeat' first|constructor|refine Iu fun hu=> ?_|intro h);all_goals refine Lm ?_
  refine⟨(0:Nat),⟨Dt,fun j hj=>Dt⟩,?_,?_⟩
  ·refine wlk _ ?_;(repeat' first|constructor|refine Iu fun hu=> ?_|intro h);all_goals refine Lm ?_
   all_goals first|exact A5|skip
  ·rintro i ⟨cw,be⟩
   refine wlk _ ?_;(repeat' first|constructor|refine Iu fun hu=> ?_|intro h);all_goals refine Lm ?_
   ·simp at h;omega
   ·rename_i h0;simp at h0
    exact(g3c h0 be h).symm
   ·simp only[inK];omega
   ·rename_i h0;simp at h0
    refine⟨i+1,⟨Dt,fun j hj=> ?_⟩,Dt,?_⟩
    ·by_cases e:j=i
     ·subst e;exact h
     ·exact be j Dt
    ·refine wlk _ ?_;(repeat' first|constructor|refine Iu fun hu=> ?_|intro h);all_goals refine Lm ?_
     all_goals first|exact Aq
   ·simp at h
    exact(f7g (fun j hj=>be j Dt)).symm
abbrev d37:FuncId:=139
def c1i:Kon
 | [x,.clo g []]=>if g=c05 then match f5z x with
   |some (n,f)=>some (d4p n f∧n≤100000,.bool ((crL n f).any g2e))
   |none=>none
   else none
 |_=>none
def d3i:Fam:=⟨List Cr,fun l=>[.sl 3 l.length (b20 l) none,.clo c05 []],fun l=>l.length≤100000,fun l=>.bool (l.any g2e)⟩
theorem f6r:PS d37 c1i:=by
 refine con [(c9w,b90)] (by simpa using f3y) d3i (fun _ _=>none) c1i ?_ ?_ Go.Proofs.Tryz.func139 Du Du Du ?_
 ·intro args pre s h hp
  unfold c1i at h
  split at h
  ·split at h
   ·rename_i hg
    subst hg
    split at h
    ·rename_i n f hx
     cases h
     exact⟨crL n f,⟨b2p (b8i hx hp.1),⟨rfl,rfl⟩,Ix⟩,by simp only[d3i,b32];exact hp.2,rfl⟩
    ·cases h
   ·cases h
  ·cases h
 ·exact Bv
 ·intro(l:List Cr) hp
  replace hp:l.length≤100000:=hp
  refine wlk _ ?_;(repeat' first|constructor|refine Iu fun hu=> ?_|intro h);all_goals refine Lm ?_
  ·exact⟨b09 l,hp⟩
  ·rw[b00];exact g53 _ _
structure Pt where
 W:Int
 H:Int
 l:List Cr
 deriving DecidableEq
def b6i(p:Pt):SV:=.agg [.int .i64 p.W,.int .i64 p.H,.sl 3 p.l.length (b20 p.l) none]
def c88:SV→Option (Prop×Pt)
 |.agg [.int .i64 W,.int .i64 H,x]=>(f5z x).map fun q=>(d4p q.1 q.2∧q.1≤100000,⟨W,H,crL q.1 q.2⟩)
 |_=>none
theorem b44{s:SV}{q:Prop}{p:Pt}(h:c88 s=some (q,p))(hq:q):s.le2 (b6i p)∧p.l.length≤100000:=by
 unfold c88 at h
 split at h
 ·rename_i W H x
  rw[J1]at h
  obtain⟨⟨n,f⟩,hx,h⟩:=h
  cases h
  refine⟨?_,by simp only[b32];exact hq.2⟩
  simp only[b6i,SV.le2,SV.le1,b24,and_true]
  exact⟨Dz,Dz,b8i hx hq.1⟩
 ·cases h
structure Pa where
 a:Int
 b:Int
 deriving DecidableEq
def paR:RT Pa:=⟨2,fun p=>[.int .i64 p.a,.int .i64 p.b],fun l=>match l with
 | [.int _ a,.int _ b]=>⟨a,b⟩
 |_=>⟨0,0⟩,⟨0,0⟩,fun _=>rfl⟩
structure Lo where
 s:Int
 a:Int
 b:Int
 deriving DecidableEq
def loR:RT Lo:=⟨3,fun p=>[.int .u8 p.s,.int .i64 p.a,.int .i64 p.b],fun l=>match l with
 | [.int _ s,.int _ a,.int _ b]=>⟨s,a,b⟩
 |_=>⟨0,0,0⟩,⟨0,0,0⟩,fun _=>rfl⟩
structure Sm where
 a:Cl
 b:Cl
 ps:List Pa
 ls:List Lo
 en:List Int
 deriving DecidableEq
def sm0:Sm:=⟨⟨0,0,0⟩,⟨0,0,0⟩,[],[],[]⟩
def b0x(s:Sm):List Int:=[s.a.x,s.a.y,s.a.q,s.b.x,s.b.y,s.b.q]
def b5u(S:List Sm)(q:List Int):Bool:=S.any fun s=>decide (b0x s=q)
def b5y(S:List Sm)(q:List Int):Nat:=S.findIdx fun s=>decide (b0x s=q)
def b75(s:Sm):Mem:=⟨[.int .i64 s.a.x,.int .i64 s.a.y,.int .u8 s.a.q,.int .i64 s.b.x,.int .i64 s.b.y,.int .u8 s.b.q,.osl 0,.osl 1,.osl 2],[(s.ps.length,paR.row s.ps),(s.ls.length,loR.row s.ls),(s.en.length,b04.row s.en)]⟩
def b3c(S:List Sm)(i:Nat):List SV:=[.int .i64 (S.getD i sm0).a.x,.int .i64 (S.getD i sm0).a.y,.int .u8 (S.getD i sm0).a.q,.int .i64 (S.getD i sm0).b.x,.int .i64 (S.getD i sm0).b.y,.int .u8 (S.getD i sm0).b.q]
theorem g6t(S:List Sm)(s:Sm)(q:List Int):b3e (b5u S) (b0x s) q=b5u (S++[s]) q:=by
 unfold b3e b5u
 rw[List.any_append]
 simp only[List.any_cons,List.any_nil,Mh]
 rw[Bool.or_comm]
 congr 1
 rw[Mm]
 simp only[Jz]
 exact⟨fun h=>h.symm,fun h=>h.symm⟩
theorem g47(S:List Sm)(s:Sm)(q:List Int)(hn:b5u S (b0x s)=false)(h:b5u (S++[s]) q=true):(if q=b0x s then S.length else b5y S q)=b5y (S++[s]) q:=by
 unfold b5y b5u at*
 rw[List.findIdx_append]
 by_cases e:q=b0x s
 ·subst e
  have:S.findIdx (fun x=>decide (b0x x=b0x s))=S.length:=by
   rw[List.findIdx_eq_length]
   intro x hx
   have:=Ji.1 hn x hx
   simpa using this
  rw[Iw rfl,this,Iy (Ln _)]
  simp[List.findIdx_cons]
 ·rw[Iy e]
  have:S.any (fun x=>decide (b0x x=q))=true:=by
   rw[List.any_append]at h
   simpa[Ne.symm e]using h
  have h9:S.findIdx (fun x=>decide (b0x x=q))<S.length:=by
   rw[List.findIdx_lt_length]
   obtain⟨x,hx,t9⟩:=Jc.1 this
   exact⟨x,hx,t9⟩
  rw[Iw h9]
theorem b68{S:List Sm}{q:List Int}(h:b5u S q=true):b5y S q<S.length:=by
 unfold b5y
 rw[List.findIdx_lt_length]
 obtain⟨x,hx,t9⟩:=Jc.1 h
 exact⟨x,hx,t9⟩
def loC(x y:Cl):Cl:=if 0<b0v x.x x.y x.q y.x y.y y.q then y else x
def hiC(x y:Cl):Cl:=if 0<b0v x.x x.y x.q y.x y.y y.q then x else y
def d14(x y:Cl):List Int:=b0x ⟨loC x y,hiC x y,[],[],[]⟩
def atS(S:List Sm)(x y:Cl):List Sm:=if b5u S (d14 x y)=true then S else S++[⟨loC x y,hiC x y,[],[],[]⟩]
structure Bd where
 p:Pt
 pl:List Mv
 im:List Cl
 ht:List Int
def j59(b:Bd):Blk:=.cells 207 [.int .i64 b.p.W,.int .i64 b.p.H,.sl 3 b.p.l.length (b20 b.p.l) none,.sl 3 b.pl.length (mvR.row b.pl) none,.sl 3 b.im.length (clR.row b.im) none,.osl 1,.omp 2,.osl 3]
def d77(b:Bd)(S:List Sm):List Blk:=[j59 b,.row 3 1 b.ht.length (b04.row b.ht) none,.pmap (.ints [.i64,.i64,.u8,.i64,.i64,.u8]) 4 (b5u S) (b5y S),.row 211 6 S.length (b3c S) none,
 .fam 143 [(287,2),(146,3),(3,1)] S.length none (fun i=>b75 (S.getD i sm0))]
def j58(m:Mem):Sm:=match m with
 |⟨[.int _ a,.int _ b,.int _ c,.int _ d,.int _ e,.int _ f,_,_,_],[r1,r2,r3]⟩=>⟨⟨a,b,c⟩,⟨d,e,f⟩,paR.lst r1.1 r1.2,loR.lst r2.1 r2.2,b04.lst r3.1 r3.2⟩
 |_=>sm0
theorem c4e(s:Sm):j58 (b75 s)=s:=by
 have h1:=RT.lst_row paR s.ps
 have h2:=RT.lst_row loR s.ls
 have h3:=RT.lst_row b04 s.en
 simp only[b75,j58,h1,h2,h3]
def smL(n:Nat)(F:Nat→Mem):List Sm:=(List.range n).map fun i=>j58 (F i)
theorem c6h(S:List Sm):smL S.length (fun i=>b75 (S.getD i sm0))=S:=by
 unfold smL
 apply L8
 intro i
 by_cases hi:i<S.length
 ·simp[hi,c4e]
 ·simp at hi;simp[hi]
theorem c2m(n:Nat)(F:Nat→Mem):(smL n F).length=n:=by simp[smL]
def asBd:List Blk→Option (Prop×Bd×List Sm)
 | [.cells T1 [.int .i64 W,.int .i64 H,cr,pl,im,.osl k1,.omp k2,.osl k3],.row T2 z2 hn hf _,.pmap K k4 has idx,.row T3 z3 kn kf _,.fam T4 Ts fn br F]=>
   match f5z cr,mvR.as pl,clR.as im with
   |some (n,f),some (n2,f2),some (n3,f3)=>if(T1=207∧k1=1∧k2=2∧k3=3∧T2=3∧z2=1)∧(K=.ints [.i64,.i64,.u8,.i64,.i64,.u8]∧k4=4∧T3=211∧z3=6)∧T4=143∧Ts=[(287,2),(146,3),(3,1)]∧br=none then
    some (((d4p n f∧n≤100000)∧mvR.is n2 f2∧clR.is n3 f3∧b04.is hn hf)∧kn=fn∧(∀i,i<kn→kf i=b3c (smL fn F) i)∧(∀q,has q=b5u (smL fn F) q)∧(∀q,has q=true→idx q=b5y (smL fn F) q)∧∀i,i<fn→(F i).le (b75 (j58 (F i))),
    ⟨⟨W,H,crL n f⟩,mvR.lst n2 f2,clR.lst n3 f3,b04.lst hn hf⟩,smL fn F)
    else none
   |_,_,_=>none
 |_=>none
theorem g1t{own:List Blk}{q:Prop}{b:Bd}{S:List Sm}(h:asBd own=some (q,b,S))(hq:q):own.length=5∧d56 5 own (d77 b S)∧b.p.l.length≤100000:=by
 unfold asBd at h
 split at h
 rotate_left
 ·cases h
 rename_i T1 W H cr pl im k1 k2 k3 T2 z2 hn hf c1 K k4 has idx T3 z3 kn kf c2 T4 Ts fn br F
 split at h
 rotate_left
 ·cases h
 rename_i n f n2 f2 n3 f3 h1 h2 h3
 split at h
 rotate_left
 ·cases h
 rename_i hT
 obtain⟨⟨rfl,rfl,rfl,rfl,rfl,rfl⟩,⟨rfl,rfl,rfl,rfl⟩,rfl,rfl,rfl⟩:=hT
 simp only[Ib]at h
 obtain⟨rfl,rfl,rfl⟩:=h
 obtain⟨⟨q1,q2,q3,q4⟩,rfl,q6,q7,q8,q9⟩:=hq
 refine⟨rfl,⟨⟨?_,?_⟩,⟨?_,?_,?_,?_⟩,⟨?_,q7,q8⟩,⟨?_,?_,?_,?_⟩,⟨?_,?_,rfl,?_⟩,Ix⟩,H1⟩
 ·exact C5
 ·exact Dg
 ·exact C5
 ·exact(RT.lst_length b04 hn hf).symm
 ·exact Ix
 ·exact d1p (b04.row_lst q4)
 ·rw[Iw ⟨rfl,rfl,Dy⟩];trivial
 ·exact C5
 ·exact(c2m kn F).symm
 ·exact Ix
 ·exact d1p q6
 ·rw[Iw ⟨rfl,rfl,rfl⟩];trivial
 ·exact(c2m kn F).symm
 ·intro i hi
  have:(smL kn F).getD i sm0=j58 (F i):=by simp[smL,hi]
  show (F i).le (b75 ((smL kn F).getD i sm0))
  rw[this]
  exact q9 i hi
theorem c7p:∀l:List (Nat×(Nat→List SV)),f1k l l
 | []=>trivial
 |_::r=>⟨rfl,fun _ _=>rfl,c7p r⟩
theorem b6y(m:Mem):m.le m:=⟨rfl,c7p _⟩
abbrev sN(l h:Cl):Sm:=⟨l,h,[],[],[]⟩
section
variable {S : List Sm} {l h : Cl}
theorem g0k:b3e (b5u S) [l.x,l.y,l.q,h.x,h.y,h.q] [l.x,l.y,l.q,h.x,h.y,h.q]=true:=by simp[b3e]
theorem g7m:∀q,b3e (b5u S) [l.x,l.y,l.q,h.x,h.y,h.q] q=b5u (S++[sN l h]) q:=g6t S (sN l h)
theorem g89(hn:b5u S [l.x,l.y,l.q,h.x,h.y,h.q]=false):∀q,b3e (b5u S) [l.x,l.y,l.q,h.x,h.y,h.q] q=true→(if q=[l.x,l.y,l.q,h.x,h.y,h.q]then S.length else b5y S q)=b5y (S++[sN l h]) q:=fun q hq=>g47 S (sN l h) q hn (by rw[←g7m];exact hq)
theorem j54(hn:b5u S [l.x,l.y,l.q,h.x,h.y,h.q]=false):(if [l.x,l.y,l.q,h.x,h.y,h.q]=[l.x,l.y,l.q,h.x,h.y,h.q]then S.length else b5y S [l.x,l.y,l.q,h.x,h.y,h.q])=b5y (S++[sN l h]) [l.x,l.y,l.q,h.x,h.y,h.q]:=g89 hn _ g0k
theorem at_len:S.length+1=(S++[sN l h]).length:=Dv
theorem at_row:∀i,i<S.length+1→(if i<S.length then b3c S i else(List.map (fun x:Nat×List SV=>x.snd) [(0,[SV.int .i64 l.x,.int .i64 l.y,.int .u8 l.q,.int .i64 h.x,.int .i64 h.y,.int .u8 h.q])].reverse).getD (i-S.length) [])=b3c (S++[sN l h]) i:=by
 intro i hi
 by_cases hl:i<S.length
 ·rw[Iw hl]
  simp[b3c,J6 hl]
 ·have:i=S.length:=Dt
  subst this
  rw[Iy (Ln _)]
  simp[b3c]
theorem at_mem:∀i,i<S.length+1→(if i=S.length then⟨lz 0 [SV.int .i64 l.x,.int .i64 l.y,.int .u8 l.q,.int .i64 h.x,.int .i64 h.y,.int .u8 h.q,.con (.slice none 0 0),.con (.slice none 0 0),.con (.slice none 0 0)],List.map (fun _=>(0,fun _=>[])) [(287,2),(146,3),(3,1)]⟩else b75 (S.getD i sm0):Mem).le (b75 ((S++[sN l h]).getD i sm0)):=by
 intro i hi
 by_cases hl:i=S.length
 ·subst hl
  rw[Iw rfl]
  have:(S++[sN l h]).getD S.length sm0=sN l h:=by simp[]
  rw[this]
  exact⟨rfl,rfl,fun _ hi=>absurd hi (Je _),rfl,fun _ hi=>absurd hi (Je _),rfl,fun _ hi=>absurd hi (Je _),Ix⟩
 ·rw[Iy hl]
  have:(S++[sN l h]).getD i sm0=S.getD i sm0:=by simp[J6 (show i<S.length from Dt)]
  rw[this]
  exact b6y _
end
def clSV(c:Cl):SV:=.agg [.int .i64 c.x,.int .i64 c.y,.int .u8 c.q]
abbrev nBAt:FuncId:=172
def hBAt:HK:=fun args own=>match args with
 | [.own 0 0,.agg [.int .i64 a,.int .i64 b,.int .u8 c],.agg [.int .i64 d,.int .i64 e,.int .u8 f]]=>(asBd own).map fun q=>⟨q.1∧(inK .u8 c∧inK .u8 f)∧q.2.2.length≤1000000,.fp true 4 (b5y (atS q.2.2 ⟨a,b,c⟩ ⟨d,e,f⟩) (d14 ⟨a,b,c⟩ ⟨d,e,f⟩)) 0,d77 q.2.1 (atS q.2.2 ⟨a,b,c⟩ ⟨d,e,f⟩),[3,4]⟩
 |_=>none
def FBAt:FamH:=⟨(Bd×List Sm)×Cl×Cl,fun(_,x,y)=>[.own 0 0,clSV x,clSV y],fun((b,S),_,_)=>d77 b S,fun((b,S),x,y)=>(b.p.l.length≤100000)∧(inK .u8 x.q∧inK .u8 y.q)∧S.length≤1000000,fun((_,S),x,y)=>.fp true 4 (b5y (atS S x y) (d14 x y)) 0,fun((b,S),x,y)=>d77 b (atS S x y),[3,4]⟩
theorem pBAt:HS nBAt hBAt:=by
 refine c90 {l:=[(b33,b1t)]} ⟨H2,Dv,Dv⟩ FBAt (fun _ _=>none) hBAt ?_ ?_ ?_ Go.Proofs.Tryz.func172 Du Du Du ?_
 ·intro args own r h hp
  unfold hBAt at h
  split at h
  ·rename_i a b c d e f
   simp only[J1]at h
   obtain⟨⟨q,bd,S⟩,hx,rfl⟩:=h
   obtain⟨h1,h2,h3⟩:=g1t hx hp.1
   exact⟨((bd,S),⟨a,b,c⟩,⟨d,e,f⟩),⟨E3,by simp[clSV,SV.le2,SV.le1,b24,SV.le0],by simp[clSV,SV.le2,SV.le1,b24,SV.le0],Ix⟩,h1,h2,⟨h3,hp.2⟩,rfl,rfl,rfl⟩
  ·cases h
 ·exact Bw
 ·intro i;show 5≤5;decide
 ·rintro⟨⟨b,S⟩,x,y⟩ μ hp
  replace hp:(b.p.l.length≤100000)∧(inK .u8 x.q∧inK .u8 y.q)∧S.length≤1000000:=hp
  have cT:decide (0<b0v x.x x.y x.q y.x y.y y.q)=true→d14 x y=[y.x,y.y,y.q,x.x,x.y,x.q]∧(b5u S [y.x,y.y,y.q,x.x,x.y,x.q]=false→atS S x y=S++[sN y x])∧(b5u S [y.x,y.y,y.q,x.x,x.y,x.q]=true→atS S x y=S):=by
   intro hc
   have fa:=K2 hc
   have e:d14 x y=[y.x,y.y,y.q,x.x,x.y,x.q]:=by simp[d14,b0x,loC,hiC,fa]
   exact Dh
  have cF:decide (0<b0v x.x x.y x.q y.x y.y y.q)=false→d14 x y=[x.x,x.y,x.q,y.x,y.y,y.q]∧(b5u S [x.x,x.y,x.q,y.x,y.y,y.q]=false→atS S x y=S++[sN x y])∧(b5u S [x.x,x.y,x.q,y.x,y.y,y.q]=true→atS S x y=S):=by
   intro hc
   have fa:=M8 hc
   have e:d14 x y=[x.x,x.y,x.q,y.x,y.y,y.q]:=by simp[d14,b0x,loC,hiC,fa]
   exact Dh
  refine wlk _ ?_;(repeat' first|constructor|refine Iu fun hu=> ?_|intro h);all_goals refine Lm ?_
  all_goals(first
   |exact hp.2.1
   |exact B2
   |exact⟨Dt,b46 Du Dt⟩
   |(obtain⟨e1,e2,e3⟩:=cT Dx
     first
      |(have hk:b5u S [y.x,y.y,y.q,x.x,x.y,x.q]=false:=by simpa using h
        first
         |exact g0k
         |(rw[e2 hk]
           first
            |exact B8))
      |(have hk:b5u S [y.x,y.y,y.q,x.x,x.y,x.q]=true:=by simpa using h
        first
         |exact hk
         |exact Lc List.length (e3 hk).symm
         |(rw[e3 hk]
           first
            |exact Bn
            |exact B2
            |rfl
            |exact B4
            |(rw[e1];exact fun _=>rfl))))
   |(obtain⟨e1,e2,e3⟩:=cF Dx
     first
      |(have hk:b5u S [x.x,x.y,x.q,y.x,y.y,y.q]=false:=by simpa using h
        first
         |exact g0k
         |(rw[e2 hk]
           first
            |exact B8))
      |(have hk:b5u S [x.x,x.y,x.q,y.x,y.y,y.q]=true:=by simpa using h
        first
         |exact hk
         |exact Lc List.length (e3 hk).symm
         |(rw[e3 hk]
           first
            |exact Bn
            |exact B2
            |rfl
            |exact B4
            |(rw[e1];exact fun _=>rfl))))
   |skip)
def sX(Q:Int):Int:=tb [0,1,0,-1] Q.toNat
def sY(Q:Int):Int:=tb [-1,0,1,0] Q.toNat
def dX(t Q:Int):Int:=poX t 0 0 (sX Q) (sY Q)
def dY(t Q:Int):Int:=poY t 0 0 (sX Q) (sY Q)
def c2b(t Q:Int)(i:Nat):Bool:=and (decide (tb [0,1,0,-1] i=dX t Q)) (and (decide (tb [-1,0,1,0] i=dY t Q)) true)
def g4k(t Q:Int):Nat→Int
 |0=>0
 |i+1=>bif c2b t Q i then i else g4k t Q i
def mvQ(t Q:Int):Int:=g4k t Q 4
def g4r(p:Int):Int:=(p-p%2).tdiv 2
def mvX(t x y X Y:Int):Int:=g4r (poX t x y (2*X+1) (2*Y+1))
def mvY(t x y X Y:Int):Int:=g4r (poY t x y (2*X+1) (2*Y+1))
theorem po_le{t x y a b:Int}(ht:0≤t)(h:b1d t x y=0)(a1: -9000≤a)(a2:a≤9000)(b1: -9000≤b)(b2:b≤9000): -60000≤poX t x y a b∧poX t x y a b≤60000∧ -60000≤poY t x y a b∧poY t x y a b≤60000:=by
 have m:=b3m h
 have r:=d67 (t:=t) (x:=a) (y:=b) (B:=9000) ht m.1 Dt Dt Dt Dt
 unfold poX poY keep
 split<;>omega
theorem g0q{p:Int}(h1: -60000≤p)(h2:p≤60000): -60000≤g4r p∧g4r p≤60000:=by
 unfold g4r
 have:=Int.tdiv_eq_ediv (a:=p-p%2) (b:=2)
 rw[this]
 split<;>omega
def d6a:SV:=.agg (b40 0++b40 1++b40 2++b40 3)
def IMoved:Int×Int×Int×Int×Int×Int→Nat→Option Inv
 |(t,x,y,X,Y,Q),7=>some {β:=Nat,ok:=fun i=>i≤4,st:=fun i=>⟨[⟨47,none,.int .i64 i⟩,⟨46,none,d6a⟩,⟨7,none,.own 5 0⟩,⟨6,none,.own 4 0⟩,⟨4,none,.own 2 0⟩],[.cells 28 [.int .u8 t,.int .i64 0,.int .i64 0],.cells 54 [.int .i64 X,.int .i64 Y,.int .u8 Q],.cells 54 [.int .i64 0,.int .i64 0,.int .u8 0],.cells 164 [.int .i64 (poX t x y (2*X+1) (2*Y+1)),.int .i64 (poY t x y (2*X+1) (2*Y+1))],.cells 164 [.int .i64 (dX t Q),.int .i64 (dY t Q)],.cells 54 [.int .i64 (mvX t x y X Y),.int .i64 (mvY t x y X Y),.int .u8 (g4k t Q i)]]⟩,μ:=fun i=>4-i}
 |_,_=>none
abbrev g9z:FuncId:=149
def f1j:Kon
 | [.agg [.int .u8 t,.int .i64 x,.int .i64 y],.agg [.int .i64 X,.int .i64 Y,.int .u8 Q]]=>some (b1d t x y=0∧b0q X Y Q=0∧0≤t∧0≤Q,.agg [.int .i64 (mvX t x y X Y),.int .i64 (mvY t x y X Y),.int .u8 (mvQ t Q)])
 |_=>none
def g90:Fam:=⟨Int×Int×Int×Int×Int×Int,fun(t,x,y,X,Y,Q)=>[.agg [.int .u8 t,.int .i64 x,.int .i64 y],.agg [.int .i64 X,.int .i64 Y,.int .u8 Q]],fun(t,x,y,X,Y,Q)=>b1d t x y=0∧b0q X Y Q=0∧0≤t∧0≤Q,fun(t,x,y,X,Y,Q)=>.agg [.int .i64 (mvX t x y X Y),.int .i64 (mvY t x y X Y),.int .u8 (mvQ t Q)]⟩
theorem pMoved:PS g9z f1j:=by
 refine con [(f5s,d04),(f0h,c46)] (by simpa using⟨j0t,g37⟩) g90 IMoved f1j ?_ ?_ Go.Proofs.Tryz.func149 Du Du Du ?_
 ·intro args pre s h hp
  unfold f1j at h
  split at h
  ·rename_i t x y X Y Q;cases h;exact⟨(t,x,y,X,Y,Q),by simp[g90,b2h,SV.le2,SV.le1,b24,SV.le0],hp,rfl⟩
  ·cases h
 ·exact Bv
 ·rintro⟨t,x,y,X,Y,Q⟩ hp
  replace hp:b1d t x y=0∧b0q X Y Q=0∧0≤t∧0≤Q:=hp
  refine wlk _ ?_;(repeat' first|constructor|refine Iu fun hu=> ?_|intro h);all_goals refine Lm ?_
  all_goals(have m:=b3m hp.1;have c:=b2x hp.2.1;have r:=po_le hp.2.2.1 hp.1 (a:=2*X+1) (b:=2*Y+1) Dt Dt Dt Dt)
  all_goals(first
   |exact An
   |(have q:=g0q r.1 r.2.1;simp only[g4r]at q;simp only[inK];omega)
   |(have q:=g0q r.2.2.1 r.2.2.2;simp only[g4r]at q;simp only[inK];omega)
   |refine⟨(0:Nat),Dy,?_,?_⟩)
  ·refine wlk _ ?_;(repeat' first|constructor|refine Iu fun hu=> ?_|intro h);all_goals refine Lm ?_
   all_goals first|exact A5|skip
  ·intro i hi
   replace hi:i≤4:=hi
   have:i=0∨i=1∨i=2∨i=3∨i=4:=Dt
   rcases this with rfl|rfl|rfl|rfl|rfl
   all_goals refine wlk _ ?_;(repeat' first|constructor|refine Iu fun hu=> ?_|intro h);all_goals refine Lm ?_
   all_goals(first
    |decide
    |rfl
    |exact A4
    |(refine⟨(1:Nat),Dy,Dy,?_⟩;(first|(have h:c2b t Q 0=true:=h)|(have h:c2b t Q 0=false:=h)))
    |(refine⟨(2:Nat),Dy,Dy,?_⟩;(first|(have h:c2b t Q 1=true:=h)|(have h:c2b t Q 1=false:=h)))
    |(refine⟨(3:Nat),Dy,Dy,?_⟩;(first|(have h:c2b t Q 2=true:=h)|(have h:c2b t Q 2=false:=h)))
    |(refine⟨(4:Nat),Dy,Dy,?_⟩;(first|(have h:c2b t Q 3=true:=h)|(have h:c2b t Q 3=false:=h))))
   all_goals refine wlk _ ?_;(repeat' first|constructor|refine Iu fun hu=> ?_|intro h);all_goals refine Lm ?_
   all_goals first|exact Aq|(simp only[g4k,h,Ls,cond_false];done)|(simp only[g4k];rw[h];rfl)|skip
theorem g23(t Q:Int):∀n:Nat,0≤g4k t Q n∧g4k t Q n≤n
 |0=>⟨Int.le_refl _,Int.le_refl _⟩
 |n+1=>by
  have:=g23 t Q n
  simp only[g4k]
  cases c2b t Q n<;>simp<;>omega
def cmE(t x y X Y Q:Int):Int:=if b1d t x y=0∧b0q X Y Q=0 then(if b0q (mvX t x y X Y) (mvY t x y X Y) (mvQ t Q)=0 then 0 else 3)else 1
abbrev c16:FuncId:=82
def b6n:Kon
 | [.agg [.int .u8 t,.int .i64 x,.int .i64 y],.agg [.int .i64 X,.int .i64 Y,.int .u8 Q]]=>some (0≤t∧t≤255∧0≤Q,.tup [.agg [.int .i64 (keep (cmE t x y X Y Q) (mvX t x y X Y)),.int .i64 (keep (cmE t x y X Y Q) (mvY t x y X Y)),.int .u8 (keep (cmE t x y X Y Q) (mvQ t Q))],.int .i64 (cmE t x y X Y Q)])
 |_=>none
def d4y:Fam:=⟨Int×Int×Int×Int×Int×Int,fun(t,x,y,X,Y,Q)=>[.agg [.int .u8 t,.int .i64 x,.int .i64 y],.agg [.int .i64 X,.int .i64 Y,.int .u8 Q]],fun(t,_,_,_,_,Q)=>0≤t∧t≤255∧0≤Q,fun(t,x,y,X,Y,Q)=>.tup [.agg [.int .i64 (keep (cmE t x y X Y Q) (mvX t x y X Y)),.int .i64 (keep (cmE t x y X Y Q) (mvY t x y X Y)),.int .u8 (keep (cmE t x y X Y Q) (mvQ t Q))],.int .i64 (cmE t x y X Y Q)]⟩
theorem c7j:PS c16 b6n:=by
 refine con [(b64,b47),(b3r,b14),(g9z,f1j)] (by simpa using⟨b7j,b3h,pMoved⟩) d4y (fun _ _=>none) b6n ?_ ?_ Go.Proofs.Tryz.func82 Du Du Du ?_
 ·intro args pre s h hp
  unfold b6n at h
  split at h
  ·rename_i t x y X Y Q;cases h;exact⟨(t,x,y,X,Y,Q),by simp[d4y,b2h,SV.le2,SV.le1,b24,SV.le0],hp,rfl⟩
  ·cases h
 ·exact Bv
 ·rintro⟨t,x,y,X,Y,Q⟩ hp
  replace hp:0≤t∧t≤255∧0≤Q:=hp
  refine wlk _ ?_;(repeat' first|constructor|refine Iu fun hu=> ?_|intro h);all_goals refine Lm ?_
  all_goals(first|grind|grind[cmE,keep])
def cnt(W H:Int):Int:=if b0e W H=0 then 4*W*H else 0
abbrev d97:FuncId:=103
def c8j:Kon
 | [.agg [.int .i64 W,.int .i64 H]]=>some (True,.int .i64 (cnt W H))
 |_=>none
def g8x:Fam:=⟨Int×Int,fun(W,H)=>[.agg [.int .i64 W,.int .i64 H]],fun(_,_)=>True,fun(W,H)=>.int .i64 (cnt W H)⟩
theorem d9j:PS d97 c8j:=by
 refine con [(b4d,b0z)] H3 g8x (fun _ _=>none) c8j ?_ ?_ Go.Proofs.Tryz.func103 Du Du Du ?_
 ·intro args pre s h hp
  unfold c8j at h
  split at h
  ·rename_i W H;cases h;exact⟨(W,H),by simp[g8x,b2h,SV.le2,SV.le1,b24,SV.le0],hp,rfl⟩
  ·cases h
 ·exact Bu
 ·rintro⟨W,H⟩ hp
  replace hp:True:=hp
  refine wlk _ ?_;(repeat' first|constructor|refine Iu fun hu=> ?_|intro h);all_goals refine Lm ?_
  all_goals(have z:=@b11 W H)
  all_goals(try simp only[inK])
  all_goals grind[cnt]
def ndE(W H i e:Int):Int:=if b0e W H=0 then(if b0g W H i e=0∧b15 W H i e=i∧b1v W H i e=e then 0 else 7)else 1
def ndK(W H i e v:Int):Int:=if ndE W H i e=0 then v else 0
theorem c2t{W H i e:Int}(h:b0g W H i e=0):b5p W H i=0:=by
 unfold b0g at h
 split at h
 ·assumption
 ·exact h
theorem c8x{W H i:Int}(h:b5p W H i=0):b0e W H=0∧0≤i∧i<4*(W*H):=by
 unfold b5p at h
 split at h
 ·rename_i h0
  have z:=b11 h0
  split at h
  ·rename_i h1
   simp[g3z]at h1
   exact⟨h0,h1.1,Dt⟩
  ·cases h
 ·cases h
abbrev g83:FuncId:=198
def d9e:Kon
 | [.agg [.int .i64 W,.int .i64 H],.agg [.int .i64 i,.int .u8 e]]=>some (0≤e,.tup [.agg [.int .i64 (ndK W H i e (i/4%W)),.int .i64 (ndK W H i e (i/4/W)),.int .u8 (ndK W H i e (i%4))],.int .i64 (ndE W H i e)])
 |_=>none
def g8k:Fam:=⟨Int×Int×Int×Int,fun(W,H,i,e)=>[.agg [.int .i64 W,.int .i64 H],.agg [.int .i64 i,.int .u8 e]],fun(_,_,_,e)=>0≤e,fun(W,H,i,e)=>.tup [.agg [.int .i64 (ndK W H i e (i/4%W)),.int .i64 (ndK W H i e (i/4/W)),.int .u8 (ndK W H i e (i%4))],.int .i64 (ndE W H i e)]⟩
theorem pNamed:PS g83 d9e:=by
 refine con [(b4d,b0z),(g0d,d6z),(nCell,f7u)] (by simpa using⟨b2c,g2s,pCell⟩) g8k (fun _ _=>none) d9e ?_ ?_ Go.Proofs.Tryz.func198 Du Du Du ?_
 ·intro args pre s h hp
  unfold d9e at h
  split at h
  ·rename_i W H i e;cases h;exact⟨(W,H,i,e),by simp[g8k,b2h,SV.le2,SV.le1,b24,SV.le0],hp,rfl⟩
  ·cases h
 ·exact Bv
 ·rintro⟨W,H,i,e⟩ hp
  replace hp:0≤e:=hp
  refine wlk _ ?_;(repeat' first|constructor|refine Iu fun hu=> ?_|intro h);all_goals refine Lm ?_
  all_goals(have z:=@b11 W H;have z2:=@c2t W H i e;have z3:=@c8x W H i;have z4:=c4p W H)
  all_goals(first|grind|grind[ndE,ndK])
theorem j50{q:Cr→Bool}{l:List Cr}{i:Nat}(hi:i<l.length)(h:q (l.getD i d0)=true):l.any q=true:=by
 refine Jc.2 ⟨l[i],Jn hi,?_⟩
 simpa[It,hi]using h
theorem g31{q:Cr→Bool}{l:List Cr}(h:∀j,j<l.length→q (l.getD j d0)=false):l.any q=false:=by
 rw[Ji]
 intro x hx
 obtain⟨j,hj,rfl⟩:=Jg.1 hx
 have:=h j hj
 simpa[It,hj]using this
theorem g1z{q:Cr→Bool}{l:List Cr}{i:Nat}(hi:i<l.length)(h:l.any q=false):q (l.getD i d0)=false:=by
 rw[Ji]at h
 have:=h l[i] (Jn hi)
 simpa[It,hi]using this
theorem c4w{l:List Cr}{i:Nat}(hi:i<l.length):l.getD i d0∈l:=by
 simp[hi]
theorem b9b{W H i e:Int}(h:b0e W H=0)(hn:b0g W H i e=0):0≤i∧i<1024:=by
 have hc:b5p W H i=0:=by
  unfold b0g at hn
  split at hn
  ·assumption
  ·exact hn
 unfold b5p at hc
 rw[Iw h]at hc
 split at hc
 ·rename_i hb
  obtain⟨h1,h2,h3,h4,h5,h6,h7⟩:=b11 h
  simp[g3z]at hb
  omega
 ·cases hc
def b65(p:Pt)(x:Cr):Bool:= !decide (b0g p.W p.H x.c x.e=0)|| !(decide (b15 p.W p.H x.c x.e=x.c)&&(decide (b1v p.W p.H x.c x.e=x.e)&&true))
def b6c(p:Pt)(i:Nat):Bool:=decide (0≤d0d (p.l.getD i d0).c (p.l.getD i d0).e (p.l.getD (i+1) d0).c (p.l.getD (i+1) d0).e)
def b0m(p:Pt):Int:=if b0e p.W p.H=0 then(if p.l.any g2e then 1 else if p.l.any (b65 p)then 7 else if(List.range (p.l.length-1)).any (b6c p)then 6 else 0)else 1
abbrev d7f:FuncId:=79
def c6j:Kon
 | [x]=>match c88 x with
   |some (a,p)=>some (a∧∀c∈p.l,inK .u8 c.e,.int .i64 (b0m p))
   |none=>none
 |_=>none
def j2c:Fam:=⟨Pt,fun p=>[b6i p],fun p=>p.l.length≤100000∧∀c∈p.l,inK .u8 c.e,fun p=>.int .i64 (b0m p)⟩
def j4k(p:Pt):Nat→Option Inv
 |7=>some {β:=Nat,ok:=fun i=>i≤p.l.length∧b0e p.W p.H=0∧p.l.any g2e=false∧∀j,j<i→b65 p (p.l.getD j d0)=false,st:=fun i=>⟨[⟨21,none,.int .i64 i⟩,⟨20,none,.int .i64 p.l.length⟩,⟨19,none,.sl 3 p.l.length (b20 p.l) none⟩,⟨1,none,.own 0 0⟩],[.cells 26 [.int .i64 p.W,.int .i64 p.H,.sl 3 p.l.length (b20 p.l) none]]⟩,μ:=fun i=>p.l.length-i}
 |14=>some {β:=Nat,ok:=fun i=>1≤i∧(i=1∨i≤p.l.length)∧b0e p.W p.H=0∧p.l.any g2e=false∧p.l.any (b65 p)=false∧∀j,j+1<i→b6c p j=false,st:=fun i=>⟨[⟨8,none,.int .i64 i⟩,⟨1,none,.own 0 0⟩],[.cells 26 [.int .i64 p.W,.int .i64 p.H,.sl 3 p.l.length (b20 p.l) none]]⟩,μ:=fun i=>p.l.length+1-i}
 |_=>none
theorem f6z:PS d7f c6j:=by
 refine con [(b4d,b0z),(d37,c1i),(g0d,d6z),(j5a,f7b),(f6a,d46)] (by simpa using⟨b2c,f6r,g2s,pUnit,g94⟩) j2c (fun p=>j4k p) c6j ?_ ?_ Go.Proofs.Tryz.func79 Du Du Du ?_
 ·intro args pre s h hp
  unfold c6j at h
  split at h
  ·split at h
   ·rename_i a p hx
    cases h
    exact Di
   ·cases h
  ·cases h
 ·exact Bu
 ·rintro(p:Pt) hp
  replace hp:p.l.length≤100000∧∀c∈p.l,inK .u8 c.e:=hp
  refine wlk _ ?_;(repeat' first|constructor|refine Iu fun hu=> ?_|intro h);all_goals refine Lm ?_
  ·simp at h;rw[b0m,Iy h];exact(c4p p.W p.H).resolve_left h
  ·exact⟨b09 _,hp.1⟩
  ·rename_i h0;simp at h0;rw[b00]at h
   rw[b0m,Iw h0,Iw h]
  ·rename_i h0;simp at h0;rw[b00]at h
   refine⟨(0:Nat),⟨Dt,h0,h,fun j hj=>Dt⟩,?_,?_⟩
   ·refine wlk _ ?_;(repeat' first|constructor|refine Iu fun hu=> ?_|intro h);all_goals refine Lm ?_
    all_goals first|exact A5|skip
   ·rintro i ⟨cw,be,fj,zb⟩
    refine wlk _ ?_;(repeat' first|constructor|refine Iu fun hu=> ?_|intro h);all_goals refine Lm ?_
    ·simp at h;omega
    ·simp at h
     have:=hp.2 _ (c4w (i:=i) h)
     simp only[inK]at this
     exact this.1
    ·rename_i h1;simp at h1
     have e:b65 p (p.l.getD i d0)=true:=h
     rw[b0m,Iw be,Iy (by simp[fj]),Iw (j50 h1 e)]
    ·simp only[inK];omega
    ·rename_i h1;simp at h1
     refine⟨i+1,⟨Dt,be,fj,fun j hj=> ?_⟩,Dt,?_⟩
     ·by_cases e:j=i
      ·subst e;exact h
      ·exact zb j Dt
     ·refine wlk _ ?_;(repeat' first|constructor|refine Iu fun hu=> ?_|intro h);all_goals refine Lm ?_
      all_goals first|exact Aq
    ·simp at h
     have vn:p.l.any (b65 p)=false:=g31 (fun j hj=>zb j Dt)
     refine⟨(1:Nat),⟨Dt,.inl rfl,be,fj,vn,fun j hj=>Dt⟩,?_,?_⟩
     ·refine wlk _ ?_;(repeat' first|constructor|refine Iu fun hu=> ?_|intro h);all_goals refine Lm ?_
      all_goals first|exact A5|skip
     ·rintro k ⟨k1,k2,-,-,-,k3⟩
      refine wlk _ ?_;(repeat' first|constructor|refine Iu fun hu=> ?_|intro h);all_goals refine Lm ?_
      all_goals(try(simp only[inK];omega))
      all_goals(try(simp at h;omega))
      ·simp at h
       have e1:((k:Int)-1).toNat=k-1:=Dt
       rw[e1,J7]
       have q1:=g1z (i:=k-1) Dt vn
       have q2:=g1z (i:=k) Dt vn
       simp only[b65,Ka,Bool.not_eq_false',Jz]at q1 q2
       have c1:=b9b be q1.1
       have c2:=b9b be q2.1
       refine⟨Ez,hp.2 _ (c4w Dt),hp.2 _ (c4w Dt)⟩
      all_goals(have e1:((k:Int)-1).toNat=k-1:=Dt)
      all_goals(have e2:k-1+1=k:=Dt)
      ·rename_i h1;simp at h1
       simp only[e1,J7]at h
       have hb:b6c p (k-1)=true:=by simp only[b6c,e2];exact h
       have:(List.range (p.l.length-1)).any (b6c p)=true:=Jc.2 ⟨k-1,K1.2 Dt,hb⟩
       rw[b0m,Iw be,Iy (by simp[fj]),Iy (by simp[vn]),Iw this]
      ·rename_i h1;simp at h1
       simp only[e1,J7]at h
       have hb:b6c p (k-1)=false:=by simp only[b6c,e2];exact h
       refine⟨k+1,⟨Dt,Dt,be,fj,vn,fun j hj=> ?_⟩,Dt,?_⟩
       ·by_cases e:j=k-1
        ·subst e;exact hb
        ·exact k3 j Dt
       ·refine wlk _ ?_;(repeat' first|constructor|refine Iu fun hu=> ?_|intro h);all_goals refine Lm ?_
        all_goals first|exact Aq
      ·simp at h
       have:(List.range (p.l.length-1)).any (b6c p)=false:=by
        rw[Ji]
        intro j hj
        have:=k3 j H4
        simp[this]
       rw[b0m,Iw be,Iy (by simp[fj]),Iy (by simp[vn]),Iy (by simp[this])]
def slE(W H i e:Int):Int:=if ndE W H i e=0 then c87 (ndK W H i e (i/4%W)) (ndK W H i e (i/4/W)) (ndK W H i e (i%4)) e else ndE W H i e
def slK(W H i e:Int):Int:=if ndE W H i e=0 then keep (slE W H i e) (ciK (i%4) e)else 0
def slC(W H i e:Int):Int:=if ndE W H i e=0 then keep (slE W H i e) (ciC (i/4%W) (i/4/W) (i%4) e)else 0
abbrev c9f:FuncId:=148
def b92:Kon
 | [.agg [.int .i64 W,.int .i64 H],.agg [.int .i64 i,.int .u8 e]]=>some (0≤e,.tup [.agg [.int .u8 (slK W H i e),.int .i64 (slC W H i e)],.int .i64 (slE W H i e)])
 |_=>none
def c92:Fam:=⟨Int×Int×Int×Int,fun(W,H,i,e)=>[.agg [.int .i64 W,.int .i64 H],.agg [.int .i64 i,.int .u8 e]],fun(_,_,_,e)=>0≤e,fun(W,H,i,e)=>.tup [.agg [.int .u8 (slK W H i e),.int .i64 (slC W H i e)],.int .i64 (slE W H i e)]⟩
theorem f4x:PS c9f b92:=by
 refine con [(g83,d9e),(c7b,b88)] (by simpa using⟨pNamed,d3m⟩) c92 (fun _ _=>none) b92 ?_ ?_ Go.Proofs.Tryz.func148 Du Du Du ?_
 ·intro args pre s h hp
  unfold b92 at h
  split at h
  ·rename_i W H i e;cases h;exact⟨(W,H,i,e),by simp[c92,b2h,SV.le2,SV.le1,b24,SV.le0],hp,rfl⟩
  ·cases h
 ·exact Bv
 ·rintro⟨W,H,i,e⟩ hp
  replace hp:0≤e:=hp
  refine wlk _ ?_;(repeat' first|constructor|refine Iu fun hu=> ?_|intro h);all_goals refine Lm ?_
  all_goals(have z:0≤ndK W H i e (i%4):=by(unfold ndK;split<;>omega))
  all_goals(first|grind|grind[slE,slK,slC,ndK,keep])
abbrev d59:FuncId:=287
def d9d:Kon
 | [.agg [.int .i64 a,.int .u8 b,.int .u8 _],.agg [.int .i64 c,.int .u8 d]]=>some (inK .i64 (a-c)∧inK .u8 b∧inK .u8 d,.int .i64 (d0d a b c d))
 |_=>none
def g8b:Fam:=⟨Int×Int×Int×Int×Int,fun(a,b,k,c,d)=>[.agg [.int .i64 a,.int .u8 b,.int .u8 k],.agg [.int .i64 c,.int .u8 d]],fun(a,b,_,c,d)=>inK .i64 (a-c)∧inK .u8 b∧inK .u8 d,fun(a,b,_,c,d)=>.int .i64 (d0d a b c d)⟩
theorem pFind1:PS d59 d9d:=by
 refine con [(j5a,f7b),(f6a,d46)] (by simpa using⟨pUnit,g94⟩) g8b (fun _ _=>none) d9d ?_ ?_ Go.Proofs.Tryz.func287 Du Du Du ?_
 ·intro args pre s h hp
  unfold d9d at h
  split at h
  ·rename_i a b k c d;cases h;exact⟨(a,b,k,c,d),by simp[g8b,b2h,SV.le2,SV.le1,b24,SV.le0],hp,rfl⟩
  ·cases h
 ·exact Bv
 ·rintro⟨a,b,k,c,d⟩ hp
  replace hp:inK .i64 (a-c)∧inK .u8 b∧inK .u8 d:=hp
  refine wlk _ ?_;(repeat' first|constructor|refine Iu fun hu=> ?_|intro h);all_goals refine Lm ?_
  all_goals(first|exact hp|rfl)
def d2t(x:Cr)(a b:Int):Int:=d0d x.c x.e a b
def lbF(l:List Cr)(a b:Int):Nat:=(l.takeWhile fun x=>decide (d2t x a b<0)).length
def f3q(l:List Cr)(a b:Int):Bool:=and (decide ((lbF l a b:Int)<l.length)) (decide (d2t (l.getD (lbF l a b) d0) a b=0))
theorem f9g{a b:Int}:∀(l:List Cr) (i:Nat),i≤l.length→(∀k,k<i→d2t (l.getD k d0) a b<0)→(i<l.length→0≤d2t (l.getD i d0) a b)→lbF l a b=i
 | [],i,h,_,_=>by simp at h;simp[lbF,h]
 |x::l,0,_,_,h=>by
  have:=h Dv
  simp at this
  have:¬d2t x a b<0:=Dt
  simp[lbF,this]
 |x::l,i+1,h,h1,h2=>by
  have:=h1 0 Dt
  simp at this
  have ih:=f9g l i E1 (fun k hk=>by simpa using h1 (k+1) Dt) (fun hk=>by simpa using h2 (by simpa using hk))
  simp only[lbF]at ih⊢
  simp[this,ih]
def d8v(l:List Cr):Prop:=∀i j,i<j→j<l.length→d0d (l.getD i d0).c (l.getD i d0).e (l.getD j d0).c (l.getD j d0).e<0
def c79(l:List Cr):Prop:=∀x∈l,0≤x.c∧x.c≤2000∧inK .u8 x.e
abbrev nBs:FuncId:=286
def kBs:Kon
 | [x,.agg [.int .i64 a,.int .u8 b],.clo g []]=>if g=d59 then match f5z x with
   |some (n,f)=>some ((d4p n f∧n≤100000)∧d8v (crL n f)∧c79 (crL n f)∧0≤a∧a≤2000∧inK .u8 b,.tup [.int .i64 (lbF (crL n f) a b),.bool (f3q (crL n f) a b)])
   |none=>none
   else none
 |_=>none
def FBs:Fam:=⟨List Cr×Int×Int,fun(l,a,b)=>[.sl 3 l.length (b20 l) none,.agg [.int .i64 a,.int .u8 b],.clo d59 []],fun(l,a,b)=>l.length≤100000∧d8v l∧c79 l∧0≤a∧a≤2000∧inK .u8 b,fun(l,a,b)=>.tup [.int .i64 (lbF l a b),.bool (f3q l a b)]⟩
def IBs:List Cr×Int×Int→Nat→Option Inv
 |(l,a,b),3=>some {β:=Nat×Nat,ok:=fun(i,j)=>i≤j∧j≤l.length∧(∀k,k<i→d2t (l.getD k d0) a b<0)∧∀k,j≤k→k<l.length→0≤d2t (l.getD k d0) a b,st:=fun(i,j)=>⟨[⟨10,none,.int .i64 j⟩,⟨9,none,.int .i64 i⟩,⟨8,none,.int .i64 l.length⟩,⟨7,none,.bool false⟩,⟨6,none,.int .i64 0⟩,⟨4,none,.own 0 0⟩,⟨2,none,.clo d59 []⟩,⟨0,none,.sl 3 l.length (b20 l) none⟩],[.cells 100 [.int .i64 a,.int .u8 b]]⟩,μ:=fun(i,j)=>j-i}
 |_,_=>none
theorem pBs:PS nBs kBs:=by
 refine con [(d59,d9d)] (by simpa using pFind1) FBs IBs kBs ?_ ?_ Go.Proofs.Tryz.func286 Du Du Du ?_
 ·intro args pre s h hp
  unfold kBs at h
  split at h
  ·split at h
   ·rename_i hg
    subst hg
    split at h
    ·rename_i n f hx
     rename_i a b _
     cases h
     exact⟨(crL n f,a,b),⟨b2p (b8i hx hp.1.1),E8,⟨rfl,rfl⟩,Ix⟩,⟨by simp only[b32];exact hp.1.2,hp.2⟩,rfl⟩
    ·cases h
   ·cases h
  ·cases h
 ·exact Bw
 ·rintro⟨l,a,b⟩ hp
  replace hp:l.length≤100000∧d8v l∧c79 l∧0≤a∧a≤2000∧inK .u8 b:=hp
  refine wlk _ ?_;(repeat' first|constructor|refine Iu fun hu=> ?_|intro h);all_goals refine Lm ?_
  refine⟨((0:Nat),l.length),⟨Dt,Dt,fun k hk=>Dt,fun k h1 h2=>Dt⟩,?_,?_⟩
  ·refine wlk _ ?_;(repeat' first|constructor|refine Iu fun hu=> ?_|intro h);all_goals refine Lm ?_
   all_goals first|exact A5|skip
  ·rintro⟨i,j⟩ ⟨h1,h2,h3,h4⟩
   replace h1:i≤j:=h1
   replace h2:j≤l.length:=h2
   replace h3:∀k,k<i→d2t (l.getD k d0) a b<0:=h3
   replace h4:∀k,j≤k→k<l.length→0≤d2t (l.getD k d0) a b:=h4
   have hm:((i:Int)+j)/2^Int.toNat 1=(((i+j)/2:Nat):Int):=by
    have:(2:Int)^Int.toNat 1=2:=rfl
    rw[this];omega
   have hq:∀k,k<l.length→inK .i64 ((l.getD k d0).c-a)∧inK .u8 (l.getD k d0).e∧inK .u8 b:=fun k hk=>by
    have q:=hp.2.2.1 _ (c4w hk)
    exact⟨Ez,q.2.2,hp.2.2.2.2.2⟩
   refine wlk _ ?_;(repeat' first|constructor|refine Iu fun hu=> ?_|intro h);all_goals refine Lm ?_
   all_goals(first
    |(have dj:i<j:=by simpa using(by assumption:decide ((i:Int)<(j:Int))=true)
      first
      |exact A4
      |decide
      |(rw[hm];simp only[inK];omega)
      |(rw[hm];omega)
      |(rw[hm,J7];exact hq _ Dt)
      |(rw[hm,J7]at h
        have h:d2t (l.getD ((i+j)/2) d0) a b<0:=K2 h
        refine⟨((i+j)/2+1,j),⟨Fs,h2,fun k hk=> ?_,h4⟩,by show j-((i+j)/2+1)<j-i;omega,?_⟩
        ·replace hk:k<(i+j)/2+1:=hk
         by_cases e:k=(i+j)/2
         ·rw[e];exact h
         ·have q:=hp.2.1 k ((i+j)/2) Dt Dt
          unfold d2t at h⊢
          unfold d0d at h q⊢
          grind)
      |(rw[hm,J7]at h
        have h:0≤d2t (l.getD ((i+j)/2) d0) a b:=Int.not_lt.1 (M8 h)
        refine⟨(i,(i+j)/2),⟨Ft,by show (i+j)/2≤l.length;omega,h3,fun k k1 k2=> ?_⟩,by show (i+j)/2-i<j-i;omega,?_⟩
        ·replace k1:(i+j)/2≤k:=k1
         by_cases e:k=(i+j)/2
         ·rw[e];exact h
         ·have q:=hp.2.1 ((i+j)/2) k Dt Dt
          unfold d2t at h⊢
          unfold d0d at h q⊢
          grind))
    |(have dj:i=j:=by(have:¬((i:Int)<(j:Int)):=by simpa using(by assumption:decide ((i:Int)<(j:Int))=false));omega
      subst dj
      have lb:=f9g l i h2 h3 (fun k=>h4 i (J2 _) k)
      first
      |(intro q;(have q:i<l.length:=by simpa using q);omega)
      |(intro q;(have q:i<l.length:=by simpa using q);exact hq i q)
      |(rw[lb])
      |(unfold f3q;rw[lb];rfl))
    |skip)
   all_goals refine wlk _ ?_;(repeat' first|constructor|refine Iu fun hu=> ?_|intro h);all_goals refine Lm ?_
   all_goals first|exact A5|(rw[hm];rfl)|(rw[hm];omega)|skip
abbrev nFind:FuncId:=226
def g6j:Kon
 | [x,.agg [.int .i64 a,.int .u8 b]]=>match f5z x with
   |some (n,f)=>some ((d4p n f∧n≤100000)∧d8v (crL n f)∧c79 (crL n f)∧0≤a∧a≤2000∧inK .u8 b,.tup [.int .i64 (lbF (crL n f) a b),.bool (f3q (crL n f) a b)])
   |none=>none
 |_=>none
def FFind:Fam:=⟨List Cr×Int×Int,fun(l,a,b)=>[.sl 3 l.length (b20 l) none,.agg [.int .i64 a,.int .u8 b]],fun(l,a,b)=>l.length≤100000∧d8v l∧c79 l∧0≤a∧a≤2000∧inK .u8 b,fun(l,a,b)=>.tup [.int .i64 (lbF l a b),.bool (f3q l a b)]⟩
theorem pFind:PS nFind g6j:=by
 refine con [(nBs,kBs)] (by simpa using pBs) FFind (fun _ _=>none) g6j ?_ ?_ Go.Proofs.Tryz.func226 Du Du Du ?_
 ·intro args pre s h hp
  unfold g6j at h
  split at h
  ·split at h
   ·rename_i n f hx
    rename_i a b _
    cases h
    exact⟨(crL n f,a,b),⟨b2p (b8i hx hp.1.1),E8,Ix⟩,⟨by simp only[b32];exact hp.1.2,hp.2⟩,rfl⟩
   ·cases h
  ·cases h
 ·exact Bv
 ·rintro⟨l,a,b⟩ hp
  replace hp:l.length≤100000∧d8v l∧c79 l∧0≤a∧a≤2000∧inK .u8 b:=hp
  refine wlk _ ?_;(repeat' first|constructor|refine Iu fun hu=> ?_|intro h);all_goals refine Lm ?_
  all_goals(try rw[b00])
  all_goals(first|rfl|exact⟨⟨b09 _,hp.1⟩,hp.2⟩|skip)
theorem b0r{p:Pt}(h:b0m p=0):b0e p.W p.H=0∧p.l.any g2e=false∧p.l.any (b65 p)=false∧(List.range (p.l.length-1)).any (b6c p)=false:=by
 unfold b0m at h
 grind
theorem f49{a b c d e f:Int}(h:d0d a b c d<0)(k:d0d c d e f<0):d0d a b e f<0:=by
 unfold d0d at*
 grind
theorem d0a{p:Pt}(h:b0m p=0):d8v p.l:=by
 obtain⟨_,_,_,h4⟩:=b0r h
 rw[Ji]at h4
 have step:∀i,i+1<p.l.length→d0d (p.l.getD i d0).c (p.l.getD i d0).e (p.l.getD (i+1) d0).c (p.l.getD (i+1) d0).e<0:=fun i hi=>by
  have:=h4 i (K1.2 Dt)
  simp[b6c]at this
  simpa using this
 intro i j dj
 induction j with
 |zero=>omega
 |succ j ih=>
  intro hj
  by_cases e:i=j
  ·subst e;exact step i hj
  ·exact f49 (ih Dt Dt) (step j hj)
theorem g5y{p:Pt}(h:b0m p=0)(hk:∀c∈p.l,inK .u8 c.e):c79 p.l:=by
 obtain⟨h1,_,h3,_⟩:=b0r h
 intro x hx
 rw[Ji]at h3
 have:=h3 x hx
 simp[b65]at this
 have q:=b9b h1 this.1
 exact⟨q.1,Dt,hk x hx⟩
theorem nm_le{W H i e:Int}(hs:b0e W H=0)(h:b0g W H i e=0):0≤b15 W H i e∧b15 W H i e≤2000:=by
 have q:=b9b hs h
 have z:=c8x (c2t h)
 have v:0≤b03 W H i e:=by
  unfold b03
  split
  ·split
   ·unfold c41
    split
    ·rename_i h2
     have w:∀X Y Q:Int,b7w W H X Y Q=0→0≤Q→0≤4*(Y*W+X)+Q:=fun X Y Q h hQ=>by
      unfold b7w at h
      rw[Iw hs]at h
      split at h
      ·rename_i hc
       have:=j1j (X:=X) (Y:=Y) hs hc.2.1 hc.2.2.1 hc.2.2.2.1 hc.2.2.2.2
       omega
      ·cases h
     refine w _ _ _ h2 ?_
     have q3:=(c6c W H i).1
     unfold nbQ
     split
     ·unfold ndq
      have:∀l:List Int,(∀x∈l,0≤x)→∀n,0≤l.getD n 0:=fun l hl n=>by
       rw[It]
       cases hh:l[n]? with
       |none=>simp
       |some y=>exact hl y (J0 hh)
      refine this _ (fun x hx=> ?_) _
      simp only[J8,List.mem_nil_iff,or_false]at hx
      rcases hx with rfl|rfl|rfl<;>exact this _ Dy _
     ·omega
    ·omega
   ·omega
  ·omega
 unfold b15
 rw[Iw h]
 omega
def atE(p:Pt)(i e:Int):Int:=if b0m p=0 then b0g p.W p.H i e else b0m p
def atC(p:Pt)(i e:Int):Int:=if atE p i e=0 then b15 p.W p.H i e else 0
def atD(p:Pt)(i e:Int):Int:=if atE p i e=0 then b1v p.W p.H i e else 0
def atI(p:Pt)(i e:Int):Int:=if atE p i e=0 then(lbF p.l (b15 p.W p.H i e) (b1v p.W p.H i e):Int)else 0
def atB(p:Pt)(i e:Int):Bool:=bif decide (atE p i e=0)then f3q p.l (b15 p.W p.H i e) (b1v p.W p.H i e)else false
abbrev nAt:FuncId:=190
def kAt:Kon
 | [x,.int .i64 i,.int .u8 e]=>match c88 x with
   |some (a,p)=>some (a∧(∀c∈p.l,inK .u8 c.e)∧0≤e∧e≤255,.tup [.agg [.int .i64 (atC p i e),.int .u8 (atD p i e)],.int .i64 (atI p i e),.bool (atB p i e),.int .i64 (atE p i e)])
   |none=>none
 |_=>none
def FAt:Fam:=⟨Pt×Int×Int,fun(p,i,e)=>[b6i p,.int .i64 i,.int .u8 e],fun(p,_,e)=>p.l.length≤100000∧(∀c∈p.l,inK .u8 c.e)∧0≤e∧e≤255,fun(p,i,e)=>.tup [.agg [.int .i64 (atC p i e),.int .u8 (atD p i e)],.int .i64 (atI p i e),.bool (atB p i e),.int .i64 (atE p i e)]⟩
theorem pAt:PS nAt kAt:=by
 refine con [(d7f,c6j),(g0d,d6z),(nFind,g6j)] (by simpa using⟨f6z,g2s,pFind⟩) FAt (fun _ _=>none) kAt ?_ ?_ Go.Proofs.Tryz.func190 Du Du Du ?_
 ·intro args pre s h hp
  unfold kAt at h
  split at h
  ·split at h
   ·rename_i a p hx
    rename_i i e _
    cases h
    exact Dj
   ·cases h
  ·cases h
 ·exact Bw
 ·rintro⟨p,i,e⟩ hp
  replace hp:p.l.length≤100000∧(∀c∈p.l,inK .u8 c.e)∧0≤e∧e≤255:=hp
  refine wlk _ ?_;(repeat' first|constructor|refine Iu fun hu=> ?_|intro h);all_goals refine Lm ?_
  all_goals(try simp only[b00]at*)
  all_goals(have hn:=@nm_le p.W p.H i e;have hz:=@b0r p;have hm:=@d0a p;have hs:=@g5y p)
  all_goals(have he:b0g p.W p.H i e=0→b1v p.W p.H i e=e:=fun h=>by(unfold b1v;rw[if_pos h]))
  all_goals(first
   |exact⟨⟨b09 _,hp.1⟩,hp.2.1⟩
   |exact hp.2.2.1
   |(have e1:b0m p=0:=by simpa using(by assumption:(!decide (b0m p=0))=false)
     have e2:b0g p.W p.H i e=0:=by simpa using(by assumption:(!decide (b0g p.W p.H i e=0))=false)
     have e3:=hn (hz e1).1 e2
     first
     |(refine⟨⟨b09 _,hp.1⟩,hm e1,hs e1 hp.2.1,e3.1,e3.2,?_⟩;rw[he e2];exact⟨hp.2.2.1,hp.2.2.2⟩)
     |simp[atE,atC,atD,atI,atB,e1,e2])
   |(have e1:b0m p=0:=by simpa using(by assumption:(!decide (b0m p=0))=false)
     have e2:¬b0g p.W p.H i e=0:=by simpa using(by assumption:(!decide (b0g p.W p.H i e=0))=true)
     simp[atE,atC,atD,atI,atB,e1,e2];done)
   |(have e1:¬b0m p=0:=by simpa using(by assumption:(!decide (b0m p=0))=true)
     simp[atE,atC,atD,atI,atB,e1];done)
   |skip)
theorem ptEta(p:Pt):(⟨p.W,p.H,p.l⟩:Pt)=p:=rfl
def kdV(p:Pt)(i e:Int):Int:=bif atB p i e then(p.l.getD (lbF p.l (b15 p.W p.H i e) (b1v p.W p.H i e)) d0).k else 0
abbrev f1z:FuncId:=117
def c94:Kon
 | [x,.int .i64 i,.int .u8 e]=>match c88 x with
   |some (a,p)=>some (a∧(∀c∈p.l,inK .u8 c.e)∧0≤e∧e≤255,.tup [.int .u8 (kdV p i e),.int .i64 (atE p i e)])
   |none=>none
 |_=>none
def FPKind:Fam:=⟨Pt×Int×Int,fun(p,i,e)=>[b6i p,.int .i64 i,.int .u8 e],fun(p,_,e)=>p.l.length≤100000∧(∀c∈p.l,inK .u8 c.e)∧0≤e∧e≤255,fun(p,i,e)=>.tup [.int .u8 (kdV p i e),.int .i64 (atE p i e)]⟩
theorem f6t:PS f1z c94:=by
 refine con [(nAt,kAt)] (by simpa using pAt) FPKind (fun _ _=>none) c94 ?_ ?_ Go.Proofs.Tryz.func117 Du Du Du ?_
 ·intro args pre s h hp
  unfold c94 at h
  split at h
  ·split at h
   ·rename_i a p hx
    rename_i i e _
    cases h
    exact Dj
   ·cases h
  ·cases h
 ·exact Bw
 ·rintro⟨p,i,e⟩ hp
  replace hp:p.l.length≤100000∧(∀c∈p.l,inK .u8 c.e)∧0≤e∧e≤255:=hp
  refine wlk _ ?_;(repeat' first|constructor|refine Iu fun hu=> ?_|intro h);all_goals refine Lm ?_
  all_goals(try simp only[b00,ptEta]at*)
  all_goals(have hb:atB p i e=true→atE p i e=0∧f3q p.l (b15 p.W p.H i e) (b1v p.W p.H i e)=true:=fun h=>by(unfold atB at h;grind))
  all_goals(first
   |exact⟨⟨b09 _,hp.1⟩,hp.2⟩
   |rfl
   |(have e1:atB p i e=true:=by grind
     have e2:=hb e1
     have e3:atI p i e=(lbF p.l (b15 p.W p.H i e) (b1v p.W p.H i e):Int):=by unfold atI;rw[if_pos e2.1]
     first
     |(show 0≤atI p i e∧atI p i e<_
       rw[e3]
       have q:=e2.2
       unfold f3q at q
       grind)
     |(show (p.l.getD (atI p i e).toNat d0).k=_
       rw[e3,J7];unfold kdV;rw[e1,cond_true])
     |exact e2.1.symm)
   |(have e1:atE p i e=0→atB p i e=false:=by grind
     have e2:atB p i e=false:=by grind
     unfold kdV;rw[e2,cond_false])
   |skip)
theorem cl_eta(c:Cl):(⟨c.x,c.y,c.q⟩:Cl)=c:=rfl
def c1w(b:Bd)(u e:Int):Cl:=
 ⟨keep (cmE (b.pl.getD u.toNat mvR.d).t (b.pl.getD u.toNat mvR.d).x (b.pl.getD u.toNat mvR.d).y (nbX (ceX b.p.W b.p.H u) (ceY b.p.W b.p.H u) (ceQ b.p.W b.p.H u) e) (nbY (ceX b.p.W b.p.H u) (ceY b.p.W b.p.H u) (ceQ b.p.W b.p.H u) e) (nbQ (ceX b.p.W b.p.H u) (ceY b.p.W b.p.H u) (ceQ b.p.W b.p.H u) e)) (mvX (b.pl.getD u.toNat mvR.d).t (b.pl.getD u.toNat mvR.d).x (b.pl.getD u.toNat mvR.d).y (nbX (ceX b.p.W b.p.H u) (ceY b.p.W b.p.H u) (ceQ b.p.W b.p.H u) e) (nbY (ceX b.p.W b.p.H u) (ceY b.p.W b.p.H u) (ceQ b.p.W b.p.H u) e)),
  keep (cmE (b.pl.getD u.toNat mvR.d).t (b.pl.getD u.toNat mvR.d).x (b.pl.getD u.toNat mvR.d).y (nbX (ceX b.p.W b.p.H u) (ceY b.p.W b.p.H u) (ceQ b.p.W b.p.H u) e) (nbY (ceX b.p.W b.p.H u) (ceY b.p.W b.p.H u) (ceQ b.p.W b.p.H u) e) (nbQ (ceX b.p.W b.p.H u) (ceY b.p.W b.p.H u) (ceQ b.p.W b.p.H u) e)) (mvY (b.pl.getD u.toNat mvR.d).t (b.pl.getD u.toNat mvR.d).x (b.pl.getD u.toNat mvR.d).y (nbX (ceX b.p.W b.p.H u) (ceY b.p.W b.p.H u) (ceQ b.p.W b.p.H u) e) (nbY (ceX b.p.W b.p.H u) (ceY b.p.W b.p.H u) (ceQ b.p.W b.p.H u) e)),
  keep (cmE (b.pl.getD u.toNat mvR.d).t (b.pl.getD u.toNat mvR.d).x (b.pl.getD u.toNat mvR.d).y (nbX (ceX b.p.W b.p.H u) (ceY b.p.W b.p.H u) (ceQ b.p.W b.p.H u) e) (nbY (ceX b.p.W b.p.H u) (ceY b.p.W b.p.H u) (ceQ b.p.W b.p.H u) e) (nbQ (ceX b.p.W b.p.H u) (ceY b.p.W b.p.H u) (ceQ b.p.W b.p.H u) e)) (mvQ (b.pl.getD u.toNat mvR.d).t (nbQ (ceX b.p.W b.p.H u) (ceY b.p.W b.p.H u) (ceQ b.p.W b.p.H u) e))⟩
def imS(b:Bd)(u:Int):Cl:=b.im.getD u.toNat clR.d
theorem oth_eq(b:Bd)(u e:Int):(⟨keep (cmE (b.pl.getD u.toNat mvR.d).t (b.pl.getD u.toNat mvR.d).x (b.pl.getD u.toNat mvR.d).y (nbX (ceX b.p.W b.p.H u) (ceY b.p.W b.p.H u) (ceQ b.p.W b.p.H u) e) (nbY (ceX b.p.W b.p.H u) (ceY b.p.W b.p.H u) (ceQ b.p.W b.p.H u) e) (nbQ (ceX b.p.W b.p.H u) (ceY b.p.W b.p.H u) (ceQ b.p.W b.p.H u) e)) (mvX (b.pl.getD u.toNat mvR.d).t (b.pl.getD u.toNat mvR.d).x (b.pl.getD u.toNat mvR.d).y (nbX (ceX b.p.W b.p.H u) (ceY b.p.W b.p.H u) (ceQ b.p.W b.p.H u) e) (nbY (ceX b.p.W b.p.H u) (ceY b.p.W b.p.H u) (ceQ b.p.W b.p.H u) e)),keep (cmE (b.pl.getD u.toNat mvR.d).t (b.pl.getD u.toNat mvR.d).x (b.pl.getD u.toNat mvR.d).y (nbX (ceX b.p.W b.p.H u) (ceY b.p.W b.p.H u) (ceQ b.p.W b.p.H u) e) (nbY (ceX b.p.W b.p.H u) (ceY b.p.W b.p.H u) (ceQ b.p.W b.p.H u) e) (nbQ (ceX b.p.W b.p.H u) (ceY b.p.W b.p.H u) (ceQ b.p.W b.p.H u) e)) (mvY (b.pl.getD u.toNat mvR.d).t (b.pl.getD u.toNat mvR.d).x (b.pl.getD u.toNat mvR.d).y (nbX (ceX b.p.W b.p.H u) (ceY b.p.W b.p.H u) (ceQ b.p.W b.p.H u) e) (nbY (ceX b.p.W b.p.H u) (ceY b.p.W b.p.H u) (ceQ b.p.W b.p.H u) e)),keep (cmE (b.pl.getD u.toNat mvR.d).t (b.pl.getD u.toNat mvR.d).x (b.pl.getD u.toNat mvR.d).y (nbX (ceX b.p.W b.p.H u) (ceY b.p.W b.p.H u) (ceQ b.p.W b.p.H u) e) (nbY (ceX b.p.W b.p.H u) (ceY b.p.W b.p.H u) (ceQ b.p.W b.p.H u) e) (nbQ (ceX b.p.W b.p.H u) (ceY b.p.W b.p.H u) (ceQ b.p.W b.p.H u) e)) (mvQ (b.pl.getD u.toNat mvR.d).t (nbQ (ceX b.p.W b.p.H u) (ceY b.p.W b.p.H u) (ceQ b.p.W b.p.H u) e))⟩:Cl)=c1w b u e:=rfl
theorem im_eq(b:Bd)(u:Int):b.im.getD u.toNat clR.d=imS b u:=rfl
def d2y(b:Bd)(u e:Int)(s:Sm):Sm:=
 if b0g b.p.W b.p.H u e=0 then
  if b03 b.p.W b.p.H u e<u then s
  else if kdV b.p u e=0 then {s with ps:=s.ps++[if imS b u=s.b then⟨b03 b.p.W b.p.H u e,u⟩else⟨u,b03 b.p.W b.p.H u e⟩]}
  else {s with ls:=s.ls++[⟨if imS b u=s.b then 1 else 0,if b.ht.getD u.toNat 0<b.ht.getD (b03 b.p.W b.p.H u e).toNat 0 then u else b03 b.p.W b.p.H u e,if b.ht.getD u.toNat 0<b.ht.getD (b03 b.p.W b.p.H u e).toNat 0 then b03 b.p.W b.p.H u e else u⟩]}
 else {s with en:=s.en++[u]}
def b5m(b:Bd)(u e:Int)(S:List Sm):List Sm:=
 let T:=atS S (imS b u) (c1w b u e)
 let i:=b5y T (d14 (imS b u) (c1w b u e))
 T.set i (d2y b u e (T.getD i sm0))
theorem j28(b:Bd)(u e:Int)(s:Sm):b0x (d2y b u e s)=b0x s:=by
 unfold d2y
 split
 ·split
  ·rfl
  ·split<;>rfl
 ·rfl
theorem b8q{α:Type}{T:List α}{i j:Nat}{x d:α}(h:i<T.length):(T.set i x).getD j d=if j=i then x else T.getD j d:=by
 by_cases e:j=i
 ·subst e;simp[h]
 ·simp[Jb (Ne.symm e),e]
theorem c0u(T:List Sm)(i:Nat)(s:Sm)(h:b0x s=b0x (T.getD i sm0)):(T.set i s).map b0x=T.map b0x:=by
 apply L8
 intro j
 simp only[Jv]
 by_cases e:j=i
 ·subst e
  by_cases hj:j<T.length
  ·simp[hj,h]
  ·simp[hj]
 ·rw[Jb (Ne.symm e)]
theorem b7d(S:List Sm)(q:List Int):b5u S q=(S.map b0x).any fun k=>decide (k=q):=by simp[b5u,List.any_map,Function.comp_def]
theorem b99(S:List Sm)(q:List Int):b5y S q=(S.map b0x).findIdx fun k=>decide (k=q):=by simp[b5y,List.findIdx_map,Function.comp_def]
theorem c4q(b:Bd)(u e:Int)(S:List Sm):(b5m b u e S).map b0x=(atS S (imS b u) (c1w b u e)).map b0x:=c0u _ _ _ (j28 b u e _)
theorem g4s(b:Bd)(u e:Int)(S:List Sm):∀q,b5u (atS S (imS b u) (c1w b u e)) q=b5u (b5m b u e S) q:=fun q=>by rw[b7d,b7d,c4q]
theorem g3y(b:Bd)(u e:Int)(S:List Sm):∀q,b5u (atS S (imS b u) (c1w b u e)) q=true→b5y (atS S (imS b u) (c1w b u e)) q=b5y (b5m b u e S) q:=fun q _=>by rw[b99,b99,c4q]
theorem f22(b:Bd)(u e:Int)(S:List Sm):(b5m b u e S).length=(atS S (imS b u) (c1w b u e)).length:=by simp[b5m]
theorem d4m{S T:List Sm}(h:S.map b0x=T.map b0x)(i:Nat)(hi:i<S.length):b3c S i=b3c T i:=by
 have hl:S.length=T.length:=by simpa using Lc List.length h
 have e:b0x (S.getD i sm0)=b0x (T.getD i sm0):=by
  have:=Lc (fun l=>l[i]?) h
  simp only[Jv,Iv hi,Iv (hl▸hi),K7,Jh]at this
  simpa[It,hi,hl▸hi]using this
 simp only[b0x,Ip]at e
 obtain⟨e1,e2,e3,e4,e5,e6⟩:=e
 simp only[b3c,e1,e2,e3,e4,e5,e6]
theorem g3v(b:Bd)(u e:Int)(S:List Sm):∀i,i<(atS S (imS b u) (c1w b u e)).length→b3c (atS S (imS b u) (c1w b u e)) i=b3c (b5m b u e S) i:=fun i hi=>d4m (c4q b u e S).symm i hi
theorem c59(S:List Sm)(x y:Cl):b5u (atS S x y) (d14 x y)=true:=by
 unfold atS
 split
 ·assumption
 ·simp[b5u,d14,b0x]
theorem j0y(b:Bd)(u e:Int)(S:List Sm):(b5m b u e S).getD (b5y (atS S (imS b u) (c1w b u e)) (d14 (imS b u) (c1w b u e))) sm0=d2y b u e ((atS S (imS b u) (c1w b u e)).getD (b5y (atS S (imS b u) (c1w b u e)) (d14 (imS b u) (c1w b u e))) sm0):=by
 unfold b5m
 rw[b8q (b68 (c59 S _ _)),Iw rfl]
theorem j5b{b:Bd}{u e:Int}{S:List Sm}{j:Nat}(h:¬j=b5y (atS S (imS b u) (c1w b u e)) (d14 (imS b u) (c1w b u e))):(b5m b u e S).getD j sm0=(atS S (imS b u) (c1w b u e)).getD j sm0:=by
 unfold b5m
 rw[b8q (b68 (c59 S _ _)),Iy h]
theorem f9d{b:Bd}{u e:Int}{s:Sm}(h:(!decide (b0g b.p.W b.p.H u e=0))=true):d2y b u e s={s with en:=s.en++[u]}:=by
 have h:¬b0g b.p.W b.p.H u e=0:=E1
 unfold d2y;rw[if_neg h]
theorem g60{b:Bd}{u e:Int}{s:Sm}(h:(!decide (b0g b.p.W b.p.H u e=0))=false)(h2:decide (b03 b.p.W b.p.H u e<u)=true):d2y b u e s=s:=by
 have h:b0g b.p.W b.p.H u e=0:=E1
 unfold d2y;rw[if_pos h,if_pos (of_decide_eq_true h2)]
theorem g62{b:Bd}{u e:Int}{s:Sm}(h:(!decide (b0g b.p.W b.p.H u e=0))=false)(h2:decide (b03 b.p.W b.p.H u e<u)=false)(h3:kdV b.p u e=0):d2y b u e s={s with ps:=s.ps++[if imS b u=s.b then⟨b03 b.p.W b.p.H u e,u⟩else⟨u,b03 b.p.W b.p.H u e⟩]}:=by
 have h:b0g b.p.W b.p.H u e=0:=E1
 unfold d2y;rw[if_pos h,if_neg (of_decide_eq_false h2),if_pos h3]
theorem d8z{b:Bd}{u e:Int}{s:Sm}(h:(!decide (b0g b.p.W b.p.H u e=0))=false)(h2:decide (b03 b.p.W b.p.H u e<u)=false)(h3:¬kdV b.p u e=0):d2y b u e s={s with ls:=s.ls++[⟨if imS b u=s.b then 1 else 0,if b.ht.getD u.toNat 0<b.ht.getD (b03 b.p.W b.p.H u e).toNat 0 then u else b03 b.p.W b.p.H u e,if b.ht.getD u.toNat 0<b.ht.getD (b03 b.p.W b.p.H u e).toNat 0 then b03 b.p.W b.p.H u e else u⟩]}:=by
 have h:b0g b.p.W b.p.H u e=0:=E1
 unfold d2y;rw[if_pos h,if_neg (of_decide_eq_false h2),if_neg h3]
theorem b43{α:Type}{R:RT α}{l:List α}{x:α}{c:List SV}(hc:c=R.sv x):∀i,i<l.length+1→(if i<l.length then R.row l i else(List.map (fun x:Nat×List SV=>x.snd) [(0,c)].reverse).getD (i-l.length) [])=R.row (l++[x]) i:=by
 intro i hi
 by_cases h:i<l.length
 ·rw[Iw h,b8g R h]
 ·have:i=l.length:=Dt
  subst this
  rw[Iy h,Lv,b87,hc]
  rfl
theorem mem_en{s:Sm}{x:Int}{c:List SV}{m:Mem}(h:m=⟨(b75 s).cs,[(s.ps.length,paR.row s.ps),(s.ls.length,loR.row s.ls),(s.en.length+1,fun i=>if i<s.en.length then b04.row s.en i else(List.map (fun x:Nat×List SV=>x.snd) [(0,c)].reverse).getD (i-s.en.length) [])]⟩)(hc:c=b04.sv x):m.le (b75 {s with en:=s.en++[x]}):=by
 subst h
 exact⟨rfl,rfl,fun _ _=>rfl,rfl,fun _ _=>rfl,Dv,b43 hc,Ix⟩
theorem g8p{s:Sm}{x:Pa}{c:List SV}{m:Mem}(h:m=⟨(b75 s).cs,[(s.ps.length+1,fun i=>if i<s.ps.length then paR.row s.ps i else(List.map (fun x:Nat×List SV=>x.snd) [(0,c)].reverse).getD (i-s.ps.length) []),(s.ls.length,loR.row s.ls),(s.en.length,b04.row s.en)]⟩)(hc:c=paR.sv x):m.le (b75 {s with ps:=s.ps++[x]}):=by
 subst h
 exact⟨rfl,Dv,b43 hc,rfl,fun _ _=>rfl,rfl,fun _ _=>rfl,Ix⟩
theorem g7s{s:Sm}{x:Lo}{c:List SV}{m:Mem}(h:m=⟨(b75 s).cs,[(s.ps.length,paR.row s.ps),(s.ls.length+1,fun i=>if i<s.ls.length then loR.row s.ls i else(List.map (fun x:Nat×List SV=>x.snd) [(0,c)].reverse).getD (i-s.ls.length) []),(s.en.length,b04.row s.en)]⟩)(hc:c=loR.sv x):m.le (b75 {s with ls:=s.ls++[x]}):=by
 subst h
 exact⟨rfl,rfl,fun _ _=>rfl,Dv,b43 hc,rfl,fun _ _=>rfl,Ix⟩
theorem cl_of{a b:Cl}(h:(decide (a.x=b.x)&&(decide (a.y=b.y)&&decide (a.q=b.q)))=true):a=b:=by
 obtain⟨x,y,q⟩:=a;obtain⟨x',y',q'⟩:=b
 simp at h
 obtain⟨rfl,rfl,rfl⟩:=h
 rfl
theorem g7c{a b:Cl}(h:(decide (a.x=b.x)&&(decide (a.y=b.y)&&decide (a.q=b.q)))=false):¬a=b:=by
 rintro rfl
 simp at h
theorem g0x{b:Bd}{u e:Int}{s:Sm}(h:(!decide (b0g b.p.W b.p.H u e=0))=false)(h2:decide (b03 b.p.W b.p.H u e<u)=false)(h3:decide (kdV b.p u e=0)=false)(h4:decide (b.ht.getD u.toNat b04.d<b.ht.getD (b03 b.p.W b.p.H u e).toNat b04.d)=true):d2y b u e s={s with ls:=s.ls++[⟨if imS b u=s.b then 1 else 0,u,b03 b.p.W b.p.H u e⟩]}:=by
 have h4:b.ht.getD u.toNat 0<b.ht.getD (b03 b.p.W b.p.H u e).toNat 0:=K2 h4
 rw[d8z h h2 (M8 h3),Iw h4,Iw h4]
theorem g0z{b:Bd}{u e:Int}{s:Sm}(h:(!decide (b0g b.p.W b.p.H u e=0))=false)(h2:decide (b03 b.p.W b.p.H u e<u)=false)(h3:decide (kdV b.p u e=0)=false)(h4:decide (b.ht.getD u.toNat b04.d<b.ht.getD (b03 b.p.W b.p.H u e).toNat b04.d)=false):d2y b u e s={s with ls:=s.ls++[⟨if imS b u=s.b then 1 else 0,b03 b.p.W b.p.H u e,u⟩]}:=by
 have h4:¬b.ht.getD u.toNat 0<b.ht.getD (b03 b.p.W b.p.H u e).toNat 0:=M8 h4
 rw[d8z h h2 (M8 h3),Iy h4,Iy h4]
theorem mvQ_le(t Q:Int):0≤mvQ t Q∧mvQ t Q≤4:=g23 t Q 4
theorem oth_q(b:Bd)(u e:Int):inK .u8 (c1w b u e).q:=by
 have:=mvQ_le (b.pl.getD u.toNat mvR.d).t (nbQ (ceX b.p.W b.p.H u) (ceY b.p.W b.p.H u) (ceQ b.p.W b.p.H u) e)
 unfold c1w keep
 simp only[inK]
 split<;>omega
theorem d1b{α:Type}{P:α→Prop}{l:List α}{d:α}(h:∀x∈l,P x)(hd:P d)(i:Nat):P (l.getD i d):=by
 rw[It]
 cases e:l[i]? with
 |none=>exact hd
 |some x=>exact h x (J0 e)
theorem g72{S:List Sm}{x y:Cl}(h:∀s∈S,s.ps.length≤1000000∧s.ls.length≤1000000∧s.en.length≤1000000)(i:Nat):((atS S x y).getD i sm0).ps.length≤1000000∧((atS S x y).getD i sm0).ls.length≤1000000∧((atS S x y).getD i sm0).en.length≤1000000:=by
 refine d1b (P:=fun s:Sm=>s.ps.length≤1000000∧s.ls.length≤1000000∧s.en.length≤1000000) (fun s hs=> ?_) (by simp[sm0]) i
 unfold atS at hs
 split at hs
 ·exact h s hs
 ·rcases Jf.1 hs with hs|hs
  ·exact h s hs
  ·rw[Jk.1 hs];simp
theorem g3k{α:Type}{R:RT α}{l:List α}{x:α}{z:Nat→List SV}(hz:z 0=R.sv x):∀i,i<l.length+1→(if i<l.length then R.row l i else z (i-l.length))=R.row (l++[x]) i:=by
 intro i hi
 by_cases h:i<l.length
 ·rw[Iw h,b8g R h]
 ·have:i=l.length:=Dt
  subst this
  rw[Iy h,Lv,hz,b87]
def bdIn(b:Bd)(S:List Sm)(u e:Int):Prop:=
 (b.p.l.length≤100000∧∀c∈b.p.l,inK .u8 c.e)∧(0≤e∧e≤255)∧(0≤u∧u<(b.pl.length:Int)∧u<(b.im.length:Int)∧u<(b.ht.length:Int))∧(b0g b.p.W b.p.H u e=0→0≤b03 b.p.W b.p.H u e∧b03 b.p.W b.p.H u e<(b.ht.length:Int))∧
 (∀m∈b.pl,0≤m.t∧m.t≤255)∧(∀c∈b.im,inK .u8 c.q)∧S.length≤1000000∧∀s∈S,s.ps.length≤1000000∧s.ls.length≤1000000∧s.en.length≤1000000
abbrev g9f:FuncId:=105
def f1b:HK:=fun args own=>match args with
 | [.own 0 0,.int .i64 u,.int .u8 e]=>(asBd own).map fun q=>⟨q.1∧bdIn q.2.1 q.2.2 u e,.tup [],d77 q.2.1 (b5m q.2.1 u e q.2.2),[3,4]⟩
 |_=>none
def FBMeet:FamH:=⟨(Bd×List Sm)×Int×Int,fun(_,u,e)=>[.own 0 0,.int .i64 u,.int .u8 e],fun((b,S),_,_)=>d77 b S,fun((b,S),u,e)=>bdIn b S u e,fun _=>.tup [],fun((b,S),u,e)=>d77 b (b5m b u e S),[3,4]⟩
theorem pBMeet:HS g9f f1b:=by
 refine c90 {l:=[(c70,b3j),(b5a,b16),(c16,b6n),(b31,b1i),(f1z,c94)],h:=[(nBAt,hBAt)],c2:=true,gr:=fun id=>bif Nat.beq id 3 then [.focus 12,.keep [0,1,2,6,8,10,12,13,14,15,17,68,81,103,117,136,151]]else [.keep [0,1,2,6,8,10,12,13,14,15,17,68,81,103,117,136,151]],G:={gx:=fun _=>[.unfocus 4]}} ⟨by simpa using⟨c0c,b39,c7j,b2f,f6t⟩,Dv,by simpa using pBAt⟩ FBMeet (fun _ _=>none) f1b ?_ ?_ ?_ Go.Proofs.Tryz.func105 Du Du Du ?_
 ·intro args own r h hp
  unfold f1b at h
  split at h
  ·rename_i u e
   simp only[J1]at h
   obtain⟨⟨q,bd,S⟩,hx,rfl⟩:=h
   obtain⟨h1,h2,h3⟩:=g1t hx hp.1
   exact⟨((bd,S),u,e),⟨E3,E3,E3,Ix⟩,h1,h2,hp.2,rfl,rfl,rfl⟩
  ·cases h
 ·exact Bw
 ·intro i;show 5≤5;decide
 ·rintro⟨⟨b,S⟩,u,e⟩ μ hp
  replace hp:bdIn b S u e:=hp
  have q1:=c6c b.p.W b.p.H u
  have q2:=g20 (X:=ceX b.p.W b.p.H u) (Y:=ceY b.p.W b.p.H u) q1.1 hp.2.1.1
  have q3:=oth_q b u e
  have q4:inK .u8 (imS b u).q:=d1b (P:=fun c:Cl=>inK .u8 c.q) hp.2.2.2.2.2.1 (by show (0:Int)≤0∧(0:Int)≤255;omega) u.toNat
  have q5:=d1b (P:=fun m:Mv=>0≤m.t∧m.t≤255) (d:=mvR.d) hp.2.2.2.2.1 Dy u.toNat
  have q7:=b68 (c59 S (imS b u) (c1w b u e))
  have q8:=g72 (x:=imS b u) (y:=c1w b u e) hp.2.2.2.2.2.2.2 (b5y (atS S (imS b u) (c1w b u e)) (d14 (imS b u) (c1w b u e)))
  have q9:S.length≤1000000:=hp.2.2.2.2.2.2.1
  refine wlk _ ?_;(repeat' first|constructor|refine Iu fun hu=> ?_|intro h);all_goals refine Lm ?_
  all_goals(try simp only[b00,RT.lst_row,c6h,oth_eq,cl_eta,im_eq]at*)
  all_goals(first
   |exact B9
   |exact B2
   |exact g4s _ _ _ _
   |exact g3y _ _ _ _
   |exact g3v _ _ _ _
   |exact(f22 _ _ _ _).symm
   |exact hp.2.1.1
   |exact⟨hp.2.2.1.1,hp.2.2.1.2.1⟩
   |exact⟨hp.2.2.1.1,hp.2.2.1.2.2.1⟩
   |exact⟨hp.2.2.1.1,hp.2.2.1.2.2.2⟩
   |exact⟨q1.1,hp.2.1.1⟩
   |exact⟨q5.1,q5.2,q2.1⟩
   |exact⟨Ix,q7⟩
   |exact⟨⟨b09 _,hp.1.1⟩,hp.1.2,hp.2.1⟩
   |exact hp.2.2.2.1 Hx
   |exact⟨Dt,b46 Du Dt⟩
   |(refine⟨⟨⟨⟨b09 _,hp.1.1⟩,RT.is_row mvR _,RT.is_row clR _,RT.is_row b04 _⟩,Ix,fun _ _=>Ix,fun _=>Ix,fun _ _=>Ix,fun i hi=> ?_⟩,⟨q4,q3⟩,q9⟩
     rw[c4e];exact b6y _)
   |(show u.toNat<b.ht.length;have:=hp.2.2.1;omega)
   |(show (b03 b.p.W b.p.H u e).toNat<b.ht.length;have:=hp.2.2.2.1 Hx;omega)
   |skip)
  all_goals(intro j hj;by_cases ej:j=b5y (atS S (imS b u) (c1w b u e)) (d14 (imS b u) (c1w b u e)))
  all_goals(first
   |(rw[Iy ej,j5b ej];exact b6y _)
   |(subst ej;rw[Iw rfl,j0y])
   |skip)
  all_goals(first
   |(rw[f9d Dx]
     refine And.intro rfl (And.intro rfl (And.intro (fun _ _=>rfl) (And.intro rfl (And.intro (fun _ _=>rfl) (And.intro (by simp[]) (And.intro (g3k (R:=b04) rfl) trivial))))))
     done)
   |(rw[g60 Dx Dx];exact And.intro rfl (And.intro rfl (And.intro (fun _ _=>rfl) (And.intro rfl (And.intro (fun _ _=>rfl) (And.intro rfl (And.intro (fun _ _=>rfl) trivial)))))))
   |skip)
  ·rw[f9d Dx]
   exact mem_en rfl rfl
  all_goals(try simp only[Mn,Bool.and_true,show decide ((1:Int)=0)=false from rfl,Bool.and_false,Bool.false_eq_true]at*)
  all_goals(try contradiction)
  all_goals(first
   |(exfalso;exact Bool.noConfusion ((show decide (kdV b.p u e=0)=true from Dx).symm.trans Dx))
   |(rw[g62 Dx Dx (K2 Dx)]
     first
      |(rw[Iw (cl_of Dx)];exact g8p rfl rfl)
      |(rw[Iy (g7c Dx)];exact g8p rfl rfl))
   |(first|rw[g0x Dx Dx Dx Dx]|rw[g0z Dx Dx Dx Dx]
     first
      |(rw[Iw (cl_of Dx)];exact g7s rfl rfl)
      |(rw[Iy (g7c Dx)];exact g7s rfl rfl))
   |skip)
end Go.Proofs.YtdblhepcmjecgaaGreatDoor.V
namespace Go.Proofs.YtdblhepcmjecgaaGreatDoor.V
open Go Go.Sort
theorem b3b{α:Type}[Inhabited α]{enc:α→List Value}{k:Nat}{w:World}{b o m:Nat}{dk:Array α}{os:Array Obj}{i:Nat}(hi:i<w.heap.size)(bb:i≠b):(sortWorldK enc k w b o m dk os).heap[i]?=w.heap[i]?:=by
 unfold sortWorldK putRowK
 rw[heap_grow_old _ _ Ej]
 show (w.heap.modify b _)[i]?=_
 rw[Kx,Iy (Ne.symm bb)]
theorem b9s{α:Type}[Inhabited α]{enc:α→List Value}{k:Nat}{w:World}{b o m:Nat}{dk:Array α}{os:Array Obj}{c:Array Value}{T:TypeId}{z:Nat×Nat}(h:w.heap[b]?=some (.cells c T z)):(sortWorldK enc k w b o m dk os).heap[b]?=some (.cells (putCells id o (flatK enc k dk) c) T z):=by
 have hi:b<w.heap.size:=(J9.1 h).1
 unfold sortWorldK putRowK
 rw[heap_grow_old _ _ Ej]
 show (w.heap.modify b _)[b]?=_
 rw[Kx,Iw rfl,h]
 rfl
theorem c0w{α:Type}[Inhabited α]{enc:α→List Value}{k:Nat}{w:World}{b o m:Nat}{dk:Array α}{os:Array Obj}:w.heap.size≤(sortWorldK enc k w b o m dk os).heap.size:=by
 unfold sortWorldK putRowK
 simp
theorem g2c{α:Type}[Inhabited α]{enc:α→List Value}{k:Nat}{w:World}{b o m:Nat}{dk:Array α}{os:Array Obj}{X:Nat→Prop}(hb:X b):Fr w.heap.size X w (sortWorldK enc k w b o m dk os):=
 ⟨rfl,rfl,rfl,fun _=>Nat.le_add_right _ _,c0w,fun _ hi hX=>b3b hi (fun e=>hX (e▸hb))⟩
theorem c8u{X:Nat→Prop}{w w':World}(h:Fr w.heap.size X w w')(hX:∀i,¬X i):∃q os,w'=grow (w.drewN q) os:=by
 refine⟨w'.drawn-w.drawn,w'.heap.extract w.heap.size w'.heap.size,?_⟩
 have h1:=h.drawn trivial
 have h2:w'.heap=w.heap++w'.heap.extract w.heap.size w'.heap.size:=by
  apply Array.ext_getElem?
  intro i
  rw[Array.getElem?_append]
  split
  ·rename_i hi;exact h.block i hi (hX i)
  ·rename_i hi
   have:=h.size
   rw[Array.getElem?_extract]
   split
   ·congr 1;omega
   ·rw[Array.getElem?_eq_none];omega
 have h3:=h.os
 have h4:=h.tape
 have h5:=h.output
 cases w'
 cases w
 simp only[grow,World.drewN,World.mk.injEq]at*
 subst h3 h4 h5
 exact⟨h2,rfl,Dt,rfl,rfl⟩
theorem b7k{F c:Array Value}{o t:Nat}(h:t<F.size)(hc:o+t<c.size):(putCells id o F c)[o+t]?=some F[t]!:=by
 simp only[putCells,Array.getElem?_mapIdx]
 rw[La hc]
 simp only[K7]
 rw[Iw ⟨Dt,Dt⟩,show o+t-o=t from Dt]
 rfl
theorem b4n{F c:Array Value}{o:Nat}:(putCells id o F c).size=c.size:=by simp[putCells]
theorem c3s{F c:Array Value}{o:Nat}{v:Value}(hF:∀t,t<F.size→F[t]!.oneCell'=true)(hc:∀v∈c,v.oneCell'=true)(h:v∈putCells id o F c):v.oneCell'=true:=by
 obtain⟨i,hi,rfl⟩:=Array.mem_iff_getElem.1 h
 have b7:i<c.size:=by rw[b4n]at hi;exact hi
 simp only[putCells,Array.getElem_mapIdx]
 split
 ·exact hF _ Dt
 ·exact hc _ (Array.getElem_mem b7)
theorem f16{α:Type}[Inhabited α]{enc:α→List Value}{k:Nat}{d:Array α}(hk:∀x,(enc x).length=k)(h1:∀x,∀v∈enc x,v.oneCell'=true){t:Nat}(ht:t<(flatK enc k d).size):(flatK enc k d)[t]!.oneCell'=true:=by
 rw[size_flatK]at ht
 rw[get_flatK _ _ _ _ ht]
 have k0:0<k:=by
  rcases Jx k with h|h
  ·subst h;simp at ht
  ·exact h
 have:t%k<(enc d[t/k]!).length:=by rw[hk];exact M4 _ k0
 rw[K4 (enc d[t/k]!) (t%k) this]
 exact h1 _ _ (Jn this)
theorem c37{α:Type}[Inhabited α]{enc:α→List Value}{k:Nat}{d:Array α}{i j:Nat}(hi:i<d.size)(hj:j<k):i*k+j<(flatK enc k d).size∧(flatK enc k d)[i*k+j]! =(enc d[i]!)[j]!:=by
 have lt:i*k+j<d.size*k:=by
  have:=Jt k (show i+1≤d.size from hi);rw[Kv,Nat.one_mul]at this;omega
 have e1:(i*k+j)/k=i:=(blk_iff k i _ Dt).1 ⟨Dt,Dt⟩
 have e2:(i*k+j)%k=j:=by rw[Nat.mod_eq_sub_div_mul,e1];omega
 exact⟨by simpa using lt,by rw[get_flatK _ _ _ _ lt,e1,e2]⟩
end Go.Proofs.YtdblhepcmjecgaaGreatDoor.V
namespace Go.Proofs.YtdblhepcmjecgaaGreatDoor.V
open Go Go.Sort Go.Proofs Go.Shelf
def b0t:List Int→List Int→Int
 | [],[]=>0
 | [],_::_=> -1
 |_::_,[]=>1
 |a::r,b::q=>if a=b then b0t r q else b3f a b
theorem b1g:∀l m:List Int,b0t m l= -b0t l m
 | [],[]=>rfl
 | [],_::_=>rfl
 |_::_,[]=>rfl
 |a::r,b::q=>by
  simp only[b0t]
  by_cases h:a=b
  ·rw[Iw h,Iw h.symm];exact b1g r q
  ·rw[Iy h,Iy (fun e=>h e.symm)];unfold b3f;repeat' split<;>omega
theorem b5x:∀l m:List Int,b0t l m=0→l=m
 | [],[],_=>rfl
 | [],_::_,h=>F8
 |_::_,[],h=>F8
 |a::r,b::q,h=>by
  simp only[b0t]at h
  by_cases e:a=b
  ·rw[Iw e]at h;rw[e,b5x r q h]
  ·rw[Iy e]at h;unfold b3f at h;split at h<;>(try split at h)<;>omega
theorem b4x(l:List Int):b0t l l=0:=by have:=b1g l l;omega
theorem b51:∀l m n:List Int,b0t l m<0→b0t m n<0→b0t l n<0
 | [],[],n,h,_=>F8
 | [],_::_,[],_,h=>F8
 | [],_::_,_::_,_,_=>by simp[b0t]
 |_::_,[],n,h,_=>F8
 |_::_,_::_,[],_,h=>F8
 |a::r,b::q,c::s,h1,h2=>by
  simp only[b0t]at h1 h2⊢
  have k (x y:Int):b3f x y<0→x<y:=by unfold b3f;split<;>(try split)<;>omega
  have k' (x y:Int) (h:x<y):b3f x y<0:=by unfold b3f;rw[if_pos h];omega
  by_cases e1:a=b
  ·subst e1
   rw[Iw rfl]at h1
   by_cases e2:a=c
   ·subst e2;rw[Iw rfl]at h2⊢;exact b51 r q s h1 h2
   ·rw[Iy e2]at h2⊢;exact h2
  ·rw[Iy e1]at h1
   have:=k _ _ h1
   by_cases e2:b=c
   ·subst e2;rw[Iy e1];exact h1
   ·rw[Iy e2]at h2
    have:=k _ _ h2
    rw[Iy Dt];exact k' _ _ Dt
theorem g0u{α:Type}(key:α→List Int):SWO (ltOf fun x y:α=>b0t (key x) (key y))where
 irrefl x:=by simp[ltOf,b4x]
 trans x y z h1 h2:=by simp only[ltOf,Jz]at*;exact b51 _ _ _ h1 h2
 ntrans x y z h1 h2:=by
  simp only[ltOf,L1]at*
  intro h3
  have n1:=b1g (key x) (key y)
  have n2:=b1g (key y) (key z)
  by_cases e1:b0t (key x) (key y)=0
  ·rw[b5x _ _ e1]at h3;exact h2 h3
  ·exact h2 (b51 _ _ _ Dt h3)
def insK{β:Type}(key:β→List Int)(x:β):List β→List β
 | []=>[x]
 |y::r=>if b0t (key x) (key y)≤0 then x::y::r else y::insK key x r
def b2d{β:Type}(key:β→List Int)(l:List β):List β:=l.foldr (insK key) []
theorem c5g{β:Type}(key:β→List Int)(x:β):∀l,(insK key x l).Perm (x::l)
 | []=>.refl _
 |y::r=>by
  simp only[insK]
  split
  ·exact .refl _
  ·exact((c5g key x r).cons y).trans (.swap x y r)
theorem b30{β:Type}(key:β→List Int):∀l,(b2d key l).Perm l
 | []=>.refl _
 |x::l=>(c5g key x _).trans ((b30 key l).cons x)
theorem b0p{β:Type}(key:β→List Int)(l:List β):(b2d key l).length=l.length:=(b30 key l).length_eq
theorem b83{β:Type}(key:β→List Int)(l:List β)(x:β):x∈b2d key l↔x∈l:=(b30 key l).mem_iff
theorem f0p{l m n:List Int}(h:b0t l m≤0)(k:b0t m n≤0):b0t l n≤0:=by
 by_cases e1:b0t l m=0
 ·rw[b5x _ _ e1];exact k
 ·by_cases e2:b0t m n=0
  ·rw[←b5x _ _ e2];exact h
  ·exact Int.le_of_lt (b51 l m n Dt Dt)
theorem c6r{β:Type}(key:β→List Int)(x:β):∀l,l.Pairwise (fun a b=>b0t (key a) (key b)≤0)→(insK key x l).Pairwise (fun a b=>b0t (key a) (key b)≤0)
 | [],_=>List.pairwise_singleton _ _
 |y::r,h=>by
  have hc:=Ku.1 h
  simp only[insK]
  split
  ·rename_i bj
   exact Ku.2 ⟨fun z hz=>by
    rcases J8.1 hz with rfl|hz
    ·exact bj
    ·exact f0p bj (hc.1 z hz),h⟩
  ·rename_i bj
   refine Ku.2 ⟨fun z hz=> ?_,c6r key x r hc.2⟩
   rcases J8.1 ((c5g key x r).mem_iff.1 hz)with rfl|hz
   ·have:=b1g (key z) (key y);omega
   ·exact hc.1 z hz
theorem c3v{β:Type}(key:β→List Int):∀l,(b2d key l).Pairwise (fun a b=>b0t (key a) (key b)≤0)
 | []=>List.Pairwise.nil
 |x::l=>c6r key x _ (c3v key l)
theorem c7k{β:Type}(key:β→List Int)(l:List β)(hd:∀x∈l,∀y∈l,key x=key y→x=y):(l.mergeSort fun x y=>decide (b0t (key x) (key y)≤0))=b2d key l:=by
 have hp:=List.mergeSort_perm l (fun x y=>decide (b0t (key x) (key y)≤0))
 refine List.Perm.eq_of_pairwise (le:=fun a b=>b0t (key a) (key b)≤0) (fun a b ha hb h1 h2=> ?_) ?_ (c3v key l) (hp.trans (b30 key l).symm)
 ·have:=b1g (key a) (key b)
  exact hd a (hp.mem_iff.1 ha) b ((b83 key l b).1 hb) (b5x _ _ Dt)
 ·have:=List.pairwise_mergeSort (le:=fun x y=>decide (b0t (key x) (key y)≤0)) (fun a b c h1 h2=>by simp only[Jz]at*;exact f0p h1 h2) (fun a b=>by have:=b1g (key a) (key b);simp only[Jy,Jz];omega) l
  exact this.imp fun h=>E1
theorem f7x{β:Type}{key:β→List Int}{l:List β}(h:(l.map key).Nodup):∀x∈l,∀y∈l,key x=key y→x=y:=by
 have hp:=K8.1 (L9.1 h)
 intro x hx y hy e
 obtain⟨i,hi,rfl⟩:=Jg.1 hx
 obtain⟨j,hj,rfl⟩:=Jg.1 hy
 rcases Lx i j with h|h|h
 ·exact absurd e (hp i j hi hj h)
 ·subst h;rfl
 ·exact absurd e.symm (hp j i hj hi h)
def svV:SV→Value
 |.int k n=>.int k n
 |_=>undef
section
variable {β : Type} {R : RT β} {w : World} {H : Nat → Prop} {μ : Mu}
theorem sv_D(hI:∀x,∀s∈R.sv x,∃k n,s=.int k n){x:β}{i:Nat}{s:SV}{v:Value}(hs:(R.sv x)[i]?=some s)(hv:((R.sv x).map svV)[i]?=some v):D w H μ s v:=by
 obtain⟨k,n,rfl⟩:=hI x s (J0 hs)
 rw[Jv,hs]at hv
 cases hv
 exact .int
theorem sv_V(hI:∀x,∀s∈R.sv x,∃k n,s=.int k n){x:β}{i:Nat}{s:SV}{v:Value}(hs:(R.sv x)[i]?=some s)(hd:D w H μ s v):((R.sv x).map svV)[i]?=some v:=by
 obtain⟨k,n,rfl⟩:=hI x s (J0 hs)
 cases hd
 rw[Jv,hs]
 rfl
end
def c3x{β:Type}(R:RT β)(P:β→Prop)(x:{x:β // P x}):List Value:=(R.sv x.1).map svV
theorem f5d{β:Type}(R:RT β){ρ:Ren}{fs fc:FuncId}(L:SlLaysF0.n6 Go.Proofs.Tryz.prog ρ)(fu:ρ.f 6=fs)(hU:∃fn,Go.Proofs.Tryz.prog.funcs[fs]?=some fn∧(fn.name== "runtime.NumGoroutine")=false∧fn.body.isNone=false)
 (aE:∀w,(isAgg (ρ.t 24)).run Go.Proofs.Tryz.prog w=.ok true w) (zE:∀w,(Go.sizeOf (ρ.t 24)).run Go.Proofs.Tryz.prog w=.ok R.sz w) (hL:∀x,(R.sv x).length=R.sz) (hI:∀x,∀s∈R.sv x,∃k n,s=.int k n)
 (kc:Kon) (pc:PS fc kc) (eg:∀args w,(callFunc fc args).run Go.Proofs.Tryz.prog w=.ok (.enter fc args) w) (e:d20)
 (he:∀T sz n g rest pre g' r,e T sz n g rest=some (pre,g',r)→sz=R.sz∧r=false∧∃caps key,rest=[.clo fc caps]∧(pre→R.is n g∧n≤100000∧
   (∀x∈R.lst n g,∀y∈R.lst n g,∃p:Prop,kc ([.agg (R.sv x),.agg (R.sv y)]++caps)=some (p,.int .i64 (b0t (key x) (key y)))∧p)∧(∀x∈R.lst n g,∀y∈R.lst n g,key x=key y→x=y)∧g'=R.row (b2d key (R.lst n g)))):ES fs e:=by
 refine⟨hU,?_⟩
 intro A w v T sz n g c rest vals pre g' r hA hv c9 hB hD qt hp
 obtain⟨rfl,rfl,caps,key,rfl,cd⟩:=he _ _ _ _ _ _ _ _ qt
 obtain⟨gu,hn,qc,qd,rfl⟩:=cd hp
 obtain⟨fv,rfl⟩:∃fv,vals=[fv]:=by
  have:=hD.1
  match vals,this with
  | [fv],_=>exact⟨fv,rfl⟩
 have hf:=hD.2 0 _ fv rfl rfl
 cases hf with
 |clo cvs d9 n9=>
 obtain⟨a,m,rfl,f7,ff,dh,hl,b9⟩:=hB
 rcases Jx n with h0|h0
 ·subst h0
  have d6:=AnyF.slices_SortFunc_none {L with} a m (.func (.func fc) #[] cvs.toArray) w
  rw[fu]at d6
  refine d6.mono ?_
  rintro e w' ⟨rfl,rfl⟩
  refine⟨_,rfl,fun h=>E2,fun _=>rfl,⟨a,m,rfl,f7,ff,dh,fun i hi=>absurd hi Dt,?_⟩,Fr.refl _ _ _⟩
  rcases b9 with h|⟨b,o,vs,c7,rfl,hh,ho,h1,hd⟩
  ·exact .inl h
  ·exact Cw
 ·rcases b9 with h|⟨b,o,vs,c7,rfl,hh,ho,h1,hd⟩
  ·omega
  have hb:b<w.heap.size:=(J9.1 hh).1
  have b8:(R.lst n g).length=n:=RT.lst_length R n g
  have cz:∀i,i<n→(R.lst n g)[i]?=some (R.of (g i)):=fun i hi=>by simp[RT.lst,hi]
  haveI:Inhabited {x:β // x∈R.lst n g}:=⟨⟨R.of (g 0),J0 (cz 0 h0)⟩⟩
  let d:Array {x:β // x∈R.lst n g}:=(R.lst n g).attach.toArray
  have kg:d.size=n:=by simp only[d,List.size_toArray,List.length_attach];exact b8
  have tp:∀i,i<n→(d[i]!).1=R.of (g i):=fun i hi=>by
   rw[K4 d i Dt]
   simp only[d,List.getElem_toArray,List.getElem_attach]
   simp[RT.lst]
  have c6:∀i j,i<n→j<R.sz→o+i*R.sz+j<vs.length:=fun i j hi hj=>by
   have:=b59 hi hj
   have:n*R.sz≤m*R.sz:=Jt _ f7
   omega
  have hk:∀x,(c3x R (fun x=>x∈R.lst n g) x).length=R.sz:=fun x=>by simp[c3x,hL]
  have cq:∀i j,i<n→j<R.sz→vs[o+i*R.sz+j]?=some ((c3x R (fun x=>x∈R.lst n g) d[i]!)[j]!):=by
   intro i j hi hj
   have h9:=c6 i j hi hj
   have bh:j<(R.sv (R.of (g i))).length:=by rw[hL];exact hj
   have hs:(R.sv (R.of (g i)))[j]?=some (R.sv (R.of (g i)))[j]:=Iv bh
   have vp:=hd i j _ _ hi (by rw[gu i hi];exact hs) (Iv h9)
   have:=sv_V hI hs vp
   rw[Iv h9]
   unfold c3x
   rw[tp i hi,K4 _ j F0]
   rw[Iv F0]at this
   exact this.symm
  have qz:∀x,∀v∈c3x R (fun x=>x∈R.lst n g) x,v.oneCell'=true:=fun x v hv=>by
   obtain⟨s,hs,rfl⟩:=Ja.1 hv
   obtain⟨k,q,rfl⟩:=hI _ s hs
   rfl
  have hH:HoldsK (c3x R (fun x=>x∈R.lst n g)) R.sz w b o d:=by
   intro t ht
   have tr:t<n*R.sz:=by simpa[kg]using ht
   have hz:0<R.sz:=by
    rcases Jx R.sz with hz|hz
    ·rw[hz]at tr;omega
    ·exact hz
   have t1:t/R.sz<n:=Nat.div_lt_of_lt_mul G1
   have t2:=M4 t hz
   have q:=c37 (enc:=c3x R (fun x=>x∈R.lst n g)) (k:=R.sz) (d:=d) (i:=t/R.sz) (j:=t%R.sz) Dt t2
   have hc:=cq (t/R.sz) (t%R.sz) t1 t2
   rw[Kb,Me]at hc
   rw[Me]at q
   rw[q.2]
   refine⟨?_,?_⟩
   ·simp only[World.cell?,hh,Option.isSome_none,Ij,List.getElem?_toArray]
    exact hc
   ·simp[World.frozen?,hh]
  have tu:CmpLays Go.Proofs.Tryz.prog fc cvs.toArray (c3x R (fun x=>x∈R.lst n g)) R.sz (fun x y=>b0t (key x.1) (key y.1)) b o d.size w:=by
   intro q os dk Qe x y
   have bk:w.heap.size≤(sortWorldK (c3x R (fun x=>x∈R.lst n g)) R.sz w b o q dk os).heap.size:=c0w
   have kp:Keeps w (sortWorldK (c3x R (fun x=>x∈R.lst n g)) R.sz w b o q dk os) (held A (c35 (.slice (some ⟨b,o,none⟩) n m))) (held A (c35 (.slice (some ⟨b,o,none⟩) n m))) b0a b0a:=
    ⟨bk,fun i hi bb=>b3b hi (fun e=>bb (.inr ⟨0,_,rfl,e▸b1p c7⟩)),fun _ _ h=>h,fun _ _ h=>h⟩
   obtain⟨p,zc,wg⟩:=qc x.1 x.2 y.1 y.2
   have j8:DL (sortWorldK (c3x R (fun x=>x∈R.lst n g)) R.sz w b o q dk os) (held A (c35 (.slice (some ⟨b,o,none⟩) n m))) b0a [.agg (R.sv x.1),.agg (R.sv y.1)] [.agg (c3x R (fun x=>x∈R.lst n g) x).toArray,.agg (c3x R (fun x=>x∈R.lst n g) y).toArray]:=
    ⟨rfl,fun i s v hs hv=>by
      match i,hs,hv with
      |0,hs,hv=>
       simp at hs hv;subst hs hv
       exact .agg _ (by simp[c3x]) (fun j s v hs hv=>sv_D hI hs hv)
      |1,hs,hv=>
       simp at hs hv;subst hs hv
       exact .agg _ (by simp[c3x]) (fun j s v hs hv=>sv_D hI hs hv)⟩
   have P5:DL (sortWorldK (c3x R (fun x=>x∈R.lst n g)) R.sz w b o q dk os) (held A (c35 (.slice (some ⟨b,o,none⟩) n m))) b0a caps cvs:=⟨d9,fun i s v hs hv=>(n9 i s v hs hv).keep kp⟩
   have:=pc.2 (held A (c35 (.slice (some ⟨b,o,none⟩) n m))) (sortWorldK (c3x R (fun x=>x∈R.lst n g)) R.sz w b o q dk os) _ _ p _
    (fun i hi=>by
      rcases hi with hi|⟨j,z,hj,hz⟩
      ·exact Jd (hA i hi) bk
      ·unfold c35 at hj
       split at hj
       ·cases hj;exact Jd (hv i hz).1 bk
       ·cases hj)
    (fun g t hg=>⟨(c9 g t hg).1,(c9 g t hg).2.keep kp⟩) (f05 j8 P5) zc wg
   have e:(#[Value.agg (c3x R (fun x=>x∈R.lst n g) x).toArray,Value.agg (c3x R (fun x=>x∈R.lst n g) y).toArray]++cvs.toArray:Array Value)=([Value.agg (c3x R (fun x=>x∈R.lst n g) x).toArray,Value.agg (c3x R (fun x=>x∈R.lst n g) y).toArray]++cvs).toArray:=Ex
   rw[e]
   refine this.mono ?_
   rintro e w' ⟨v,rfl,w8,bg⟩
   cases w8
   exact⟨rfl,c8u bg (fun _ h=>h)⟩
  have d6:=AnyQ.slices_SortFunc_total L R.sz aE zE (c3x R (fun x=>x∈R.lst n g)) hk qz (fun x y=>b0t (key x.1) (key y.1)) (g0u (fun x:{x:β // x∈R.lst n g}=>key x.1)) fc cvs.toArray b o m d w eg tu hH hb Dt
   (fun x y h1 h2=>Subtype.ext (qd _ x.2 _ y.2 (b5x _ _ (by
     simp only[ltOf,L1]at h1 h2
     have:=b1g (key x.1) (key y.1)
     omega))))
  rw[fu,kg]at d6
  refine d6.mono ?_
  rintro e w' ⟨rfl,q,os,rfl⟩
  generalize hM:(d.toList.mergeSort fun x y=> !(ltOf (fun x y:{x:β // x∈R.lst n g}=>b0t (key x.1) (key y.1))) y x)=M
  have qe:M.map (·.1)=b2d key (R.lst n g):=by
   rw[←hM,←c7k key _ qd]
   rw[List.map_mergeSort (s:=fun x y=>decide (b0t (key x) (key y)≤0))]
   ·simp[d]
   ·intro x _ y _
    have:=b1g (key x.1) (key y.1)
    simp only[ltOf,←decide_not,decide_eq_decide]
    omega
  have gk:M.length=n:=by
   have:=Lc List.length qe
   rw[Js,b0p,b8]at this
   exact this
  have P6:∀i,i<n→(M.toArray[i]!).1=(b2d key (R.lst n g)).getD i R.d:=fun i hi=>by
   rw[←qe,K4 M.toArray i Fu]
   simp[gk,hi]
  refine⟨_,rfl,fun h=>E2,fun _=>rfl,⟨_,m,rfl,f7,ff,dh,fun i hi=>⟨hL _,?_⟩,.inr ⟨b,o,(putCells id o (flatK (c3x R (fun x=>x∈R.lst n g)) R.sz M.toArray) vs.toArray).toList,c7,rfl,?_,?_,?_,?_⟩⟩,g2c (b1p c7)⟩
  ·rw[J4]
   intro s hs
   obtain⟨k,q,rfl⟩:=hI _ s hs
   rfl
  ·rw[b9s hh]
  ·rw[Kr,b4n];simpa using ho
  ·intro v hv
   exact Dk
  ·intro i j s v hi hs hv
   have hj:j<R.sz:=Gc
   have q:=c37 (enc:=c3x R (fun x=>x∈R.lst n g)) (k:=R.sz) (d:=M.toArray) (i:=i) (j:=j) Fu hj
   rw[Kk,Kb,b7k q.1 (by simp;have:=c6 i j hi hj;omega),q.2]at hv
   cases hv
   have cc:(R.sv (M.toArray[i]!).1)[j]?=some s:=by rw[P6 i hi];exact hs
   refine sv_D hI cc ?_
   have bh:j<((R.sv (M.toArray[i]!).1).map svV).length:=by rw[Js,hL];exact hj
   unfold c3x
   rw[K4 _ j bh]
   exact Iv bh
end Go.Proofs.YtdblhepcmjecgaaGreatDoor.V
namespace Go.Proofs.YtdblhepcmjecgaaGreatDoor.V
open Go
def capB:SV→Option (Prop×List Int)
 |.rel 1 1 f 0 0=>match f 0 with
  | [.rel 8 1 g 0 0]=>match g 0 with
    | [_,_,_,_,_,.sl 1 n h _,_,_]=>some ((∀j,g j=g 0)∧h=b04.row (b04.lst n h),b04.lst n h)
    |_=>none
  |_=>none
 |_=>none
abbrev C8:=SV×SV×SV×SV×SV×SV×SV×Option Nat
def capS:List Int→C8→SV
 |l,(a,b,c,d,e,f,g,cp)=>.rel 1 1 (fun _=>[.rel 8 1 (fun _=>[a,b,c,d,e,.sl 1 l.length (b04.row l) cp,f,g]) 0 0]) 0 0
theorem g19{s:SV}{q:Prop}{l:List Int}(h:capB s=some (q,l))(hq:q):∃z,s.le2 (capS l z):=by
 unfold capB at h
 split at h
 ·split at h
  ·split at h
   ·rename_i f _ g e1 _ a b c d e n hh cp x y e2
    cases h
    obtain⟨p1,p2⟩:=hq
    refine⟨(a,b,c,d,e,x,y,cp),?_⟩
    simp only[capS,SV.le2,SV.le1,SV.le0,Mp,RT.lst_length]
    intro j hj
    rw[show j=0 from Dt,e1]
    have eg:g=fun _=>[a,b,c,d,e,.sl 1 n hh cp,x,y]:=Mj fun j=>by rw[p1 j,e2]
    rw[eg,←p2]
   ·cases h
  ·cases h
 ·cases h
abbrev nSrt1:FuncId:=175
def f4s:Kon
 | [.agg [.int .i64 a,.int .i64 _],.agg [.int .i64 c,.int .i64 _],s]=>(capB s).map fun q=>(q.1∧(0≤a∧a<q.2.length)∧0≤c∧c<q.2.length,.int .i64 (b3f (q.2.getD a.toNat 0) (q.2.getD c.toNat 0)))
 |_=>none
def FSrt1:Fam:=⟨(Int×Int×Int×Int)×List Int×C8,fun((a,b,c,d),l,z)=>[.agg [.int .i64 a,.int .i64 b],.agg [.int .i64 c,.int .i64 d],capS l z],fun((a,_,c,_),l,_)=>(0≤a∧a<l.length)∧0≤c∧c<l.length,fun((a,_,c,_),l,_)=>.int .i64 (b3f (l.getD a.toNat 0) (l.getD c.toNat 0))⟩
theorem pSrt1:PS nSrt1 f4s:=by
 refine con [(j0z,g6k)] (by simpa using pCmp) FSrt1 (fun _ _=>none) f4s ?_ ?_ Go.Proofs.Tryz.func175 Du Du Du ?_
 ·intro args pre s h hp
  unfold f4s at h
  split at h
  ·rename_i a b c d x
   simp only[J1]at h
   obtain⟨⟨q,l⟩,hx,he⟩:=h
   cases he
   obtain⟨z,hz⟩:=g19 hx hp.1
   exact⟨((a,b,c,d),l,z),⟨E8,E8,hz,Ix⟩,hp.2,rfl⟩
  ·cases h
 ·exact Bw
 ·rintro⟨⟨a,b,c,d⟩,l,x1,x2,x3,x4,x5,x6,x7,cp⟩ hp
  replace hp:(0≤a∧a<l.length)∧0≤c∧c<l.length:=hp
  refine wlk _ ?_;(repeat' first|constructor|refine Iu fun hu=> ?_|intro h);all_goals refine Lm ?_
  all_goals(first|exact hp.1|exact hp.2|rfl|skip)
end Go.Proofs.YtdblhepcmjecgaaGreatDoor.V
namespace Go.Proofs
open Go Go.Shelf Go.RowKit Go.Lib Go.Sort
shelf_lay_g SlLaysF0.n6 Slsf 6 at Tryz 174 as Tryz.sortPass
end Go.Proofs
namespace Go.Proofs.YtdblhepcmjecgaaGreatDoor.V
open Go Go.Sort Go.Proofs Go.Shelf
abbrev f5v:FuncId:=174
def c63(l:List Int)(x:Pa):List Int:=[l.getD x.a.toNat 0]
def d0p:d20:=fun _ sz n g rest=>match rest with
 | [.clo f [c]]=>if f=nSrt1∧sz=2 then(capB c).map fun q=>(q.1∧paR.is n g∧n≤100000∧(∀x∈paR.lst n g,0≤x.a∧x.a<q.2.length)∧(∀x∈paR.lst n g,∀y∈paR.lst n g,c63 q.2 x=c63 q.2 y→x=y),paR.row (b2d (c63 q.2) (paR.lst n g)),false)else none
 |_=>none
theorem j31:ES f5v d0p:=by
 refine f5d paR Go.Proofs.Tryz.sortPass rfl ⟨_,Go.Proofs.Tryz.func174,Du,Du⟩ (fun w=>Go.Proofs.Tryz.isAgg287 w) (fun w=>Go.Proofs.Tryz.sizeOf287 w) (fun _=>rfl) (fun x s hs=> ?_) f4s pSrt1 (enters_of Go.Proofs.Tryz.func175 Du rfl) d0p ?_
 ·simp[paR]at hs
  rcases hs with rfl|rfl
  ·exact C4
  ·exact C4
 ·intro T sz n g rest pre g' r h
  unfold d0p at h
  split at h
  rotate_left
  ·cases h
  rename_i f c
  split at h
  rotate_left
  ·cases h
  rename_i hc
  obtain⟨rfl,rfl⟩:=hc
  simp only[J1]at h
  obtain⟨⟨q,l⟩,hx,he⟩:=h
  cases he
  refine⟨rfl,rfl,[c],c63 l,rfl,fun hp=>⟨hp.2.1,hp.2.2.1,fun x d4 y hy=> ?_,hp.2.2.2.2,rfl⟩⟩
  refine⟨q∧(0≤x.a∧x.a<l.length)∧0≤y.a∧y.a<l.length,?_,hp.1,hp.2.2.2.1 x d4,hp.2.2.2.1 y hy⟩
  show f4s [.agg [.int .i64 x.a,.int .i64 x.b],.agg [.int .i64 y.a,.int .i64 y.b],c]=_
  simp only[f4s,hx,K7,Ib,Mp,SV.int.injEq]
  simp only[c63,b0t]
  split
  ·rename_i e;rw[e];simp[b3f]
  ·rfl
end Go.Proofs.YtdblhepcmjecgaaGreatDoor.V
namespace Go.Proofs.YtdblhepcmjecgaaGreatDoor.V
open Go
def orL:List Int→Int
 | []=>0
 |a::r=>if a=0 then orL r else a
theorem f7d:∀{l:List Int} {i:Nat},(∀j,j<i→l.getD j 0=0)→i<l.length→l.getD i 0≠0→orL l=l.getD i 0
 | [],_,_,h,_=>E7
 |a::r,0,_,_,hv=>by simp only[orL];rw[Iy Fh];rfl
 |a::r,i+1,h,hi,hv=>by
  have h0:a=0:=by simpa using h 0 Dt
  simp only[orL]
  rw[Iw h0]
  have:=f7d (l:=r) (i:=i) (fun j hj=>by simpa using h (j+1) Dt) Ej Fh
  simpa using this
theorem d9t:∀{l:List Int},(∀j,j<l.length→l.getD j 0=0)→orL l=0
 | [],_=>rfl
 |a::r,h=>by
  have h0:a=0:=by simpa using h 0 Dv
  simp only[orL]
  rw[Iw h0]
  exact d9t (fun j hj=>by simpa using h (j+1) Ek)
def j0w:Kon
 | [x]=>match b04.as x with
   |some (n,f)=>some (b04.is n f∧n≤100000,.int .i64 (orL (b04.lst n f)))
   |none=>none
 |_=>none
def FOrL:Fam:=⟨List Int,fun l=>[.sl 1 l.length (b04.row l) none],fun l=>l.length≤100000,fun l=>.int .i64 (orL l)⟩
def IOrL(l:List Int):Nat→Option Inv
 |3=>some {β:=Nat,ok:=fun i=>i≤l.length∧∀j,j<i→l.getD j 0=0,st:=fun i=>⟨[⟨8,none,.int .i64 i⟩,⟨7,none,.int .i64 l.length⟩,⟨6,none,.sl 1 l.length (b04.row l) none⟩,⟨3,none,.int .i64 0⟩],[]⟩,μ:=fun i=>l.length-i}
 |_=>none
theorem pOrL:PS nOr j0w:=by
 refine con [] Dv FOrL IOrL j0w ?_ ?_ Go.Proofs.Tryz.func108 Du Du Du ?_
 ·intro args pre s h hp
  unfold j0w at h
  split at h
  ·split at h
   ·rename_i n f hx
    cases h
    exact⟨b04.lst n f,⟨b2p (b04.as_le hx hp.1),Ix⟩,by simp only[FOrL,RT.lst_length];exact hp.2,rfl⟩
   ·cases h
  ·cases h
 ·exact Bu
 ·rintro l hp
  replace hp:l.length≤100000:=hp
  refine wlk _ ?_;(repeat' first|constructor|refine Iu fun hu=> ?_|intro h);all_goals refine Lm ?_
  refine⟨(0:Nat),⟨J5 _,fun j hj=>Dt⟩,?_,?_⟩
  ·refine wlk _ ?_;(repeat' first|constructor|refine Iu fun hu=> ?_|intro h);all_goals refine Lm ?_
   all_goals first|exact A5|skip
  ·intro i hi
   obtain⟨cw,be⟩:=hi
   refine wlk _ ?_;(repeat' first|constructor|refine Iu fun hu=> ?_|intro h);all_goals refine Lm ?_
   all_goals(try simp only[I8,I9]at*)
   all_goals(first
    |exact An
    |(exact(f7d be Dt Dx).symm)
    |(refine⟨i+1,⟨Dt,fun j hj=> ?_⟩,E6,?_⟩)
    |(exact(d9t (fun j hj=>be j Dt)).symm)
    |skip)
   ·by_cases e:j=i
    ·subst e;exact h
    ·exact be j Dt
   ·refine wlk _ ?_;(repeat' first|constructor|refine Iu fun hu=> ?_|intro h);all_goals refine Lm ?_
    all_goals first|exact Aq|skip
end Go.Proofs.YtdblhepcmjecgaaGreatDoor.V
namespace Go.Proofs
open Go Go.Shelf Go.RowKit Go.Lib Go.Sort
shelf_lay_g SlLaysF0.n6 Slsf 6 at Tryz 176 as Tryz.sortLoop
end Go.Proofs
namespace Go.Proofs.YtdblhepcmjecgaaGreatDoor.V
open Go Go.Sort Go.Proofs Go.Shelf
abbrev nSrt2:FuncId:=177
def f38:Kon
 | [.agg [.int .u8 p,.int .i64 a,.int .i64 _],.agg [.int .u8 q,.int .i64 c,.int .i64 _],s]=>(capB s).map fun z=>(z.1∧(0≤a∧a<z.2.length)∧0≤c∧c<z.2.length,.int .i64 (orL [b3f p q,b3f (z.2.getD a.toNat 0) (z.2.getD c.toNat 0)]))
 |_=>none
def FSrt2:Fam:=⟨(Int×Int×Int×Int×Int×Int)×List Int×C8,fun((p,a,b,q,c,d),l,z)=>[.agg [.int .u8 p,.int .i64 a,.int .i64 b],.agg [.int .u8 q,.int .i64 c,.int .i64 d],capS l z],fun((_,a,_,_,c,_),l,_)=>(0≤a∧a<l.length)∧0≤c∧c<l.length,fun((p,a,_,q,c,_),l,_)=>.int .i64 (orL [b3f p q,b3f (l.getD a.toNat 0) (l.getD c.toNat 0)])⟩
theorem pSrt2:PS nSrt2 f38:=by
 refine con [(j0z,g6k),(j27,f9t),(nOr,j0w)] (by simpa using⟨pCmp,pCmp8,pOrL⟩) FSrt2 (fun _ _=>none) f38 ?_ ?_ Go.Proofs.Tryz.func177 Du Du Du ?_
 ·intro args pre s h hp
  unfold f38 at h
  split at h
  ·rename_i p a b q c d x
   simp only[J1]at h
   obtain⟨⟨w,l⟩,hx,he⟩:=h
   cases he
   obtain⟨z,hz⟩:=g19 hx hp.1
   exact⟨((p,a,b,q,c,d),l,z),⟨E8,E8,hz,Ix⟩,hp.2,rfl⟩
  ·cases h
 ·exact Bw
 ·rintro⟨⟨p,a,b,q,c,d⟩,l,x1,x2,x3,x4,x5,x6,x7,cp⟩ hp
  replace hp:(0≤a∧a<l.length)∧0≤c∧c<l.length:=hp
  refine wlk _ ?_;(repeat' first|constructor|refine Iu fun hu=> ?_|intro h);all_goals refine Lm ?_
  all_goals(first
   |exact hp.1
   |exact hp.2
   |rfl
   |exact⟨fun i hi=>match i,hi with
    |0,_=>rfl
    |1,_=>rfl,Dt⟩
   |skip)
abbrev f5n:FuncId:=176
def c6d(l:List Int)(x:Lo):List Int:=[x.s,l.getD x.a.toNat 0]
theorem f5w(p q a b:Int):orL [b3f p q,b3f a b]=b0t [p,a] [q,b]:=by
 simp only[orL,b0t]
 by_cases e:p=q
 ·subst e
  rw[Iw rfl,show b3f p p=0 by simp[b3f],Iw rfl]
  by_cases e2:a=b
  ·subst e2;simp[b3f]
  ·rw[Iy e2];split<;>simp_all
 ·rw[Iy e,Iy]
  unfold b3f;split<;>(try split)<;>omega
def d1s:d20:=fun _ sz n g rest=>match rest with
 | [.clo f [c]]=>if f=nSrt2∧sz=3 then(capB c).map fun q=>(q.1∧loR.is n g∧n≤100000∧(∀x∈loR.lst n g,0≤x.a∧x.a<q.2.length)∧(∀x∈loR.lst n g,∀y∈loR.lst n g,c6d q.2 x=c6d q.2 y→x=y),loR.row (b2d (c6d q.2) (loR.lst n g)),false)else none
 |_=>none
theorem j0m:ES f5n d1s:=by
 refine f5d loR Go.Proofs.Tryz.sortLoop rfl ⟨_,Go.Proofs.Tryz.func176,Du,Du⟩ (fun w=>Go.Proofs.Tryz.isAgg146 w) (fun w=>Go.Proofs.Tryz.sizeOf146 w) (fun _=>rfl) (fun x s hs=> ?_) f38 pSrt2 (enters_of Go.Proofs.Tryz.func177 Du rfl) d1s ?_
 ·simp[loR]at hs
  rcases hs with rfl|rfl|rfl
  ·exact C4
  ·exact C4
  ·exact C4
 ·intro T sz n g rest pre g' r h
  unfold d1s at h
  split at h
  rotate_left
  ·cases h
  rename_i f c
  split at h
  rotate_left
  ·cases h
  rename_i hc
  obtain⟨rfl,rfl⟩:=hc
  simp only[J1]at h
  obtain⟨⟨q,l⟩,hx,he⟩:=h
  cases he
  refine⟨rfl,rfl,[c],c6d l,rfl,fun hp=>⟨hp.2.1,hp.2.2.1,fun x d4 y hy=> ?_,hp.2.2.2.2,rfl⟩⟩
  refine⟨q∧(0≤x.a∧x.a<l.length)∧0≤y.a∧y.a<l.length,?_,hp.1,hp.2.2.2.1 x d4,hp.2.2.2.1 y hy⟩
  show f38 [.agg [.int .u8 x.s,.int .i64 x.a,.int .i64 x.b],.agg [.int .u8 y.s,.int .i64 y.a,.int .i64 y.b],c]=_
  simp only[f38,hx,K7,c6d,f5w]
end Go.Proofs.YtdblhepcmjecgaaGreatDoor.V
namespace Go.Proofs
open Go Go.Shelf Go.RowKit Go.Lib Go.Sort
shelf_lay_g SlLaysM.n5 Slgm 5 at Tryz 178 as Tryz.sortInts
end Go.Proofs
namespace Go.Proofs.YtdblhepcmjecgaaGreatDoor.V
open Go Go.Sort Go.Proofs Go.Shelf
section
variable {α : Type} [Inhabited α] {enc : α → Value} {w : World} {b o m : Nat} {d : Array α} {os : Array Obj}
theorem g4j{i:Nat}(hi:i<w.heap.size)(bb:i≠b):(grow (Go.Sort.putRow enc (Sort.ahead w m) b o d) os).heap[i]?=w.heap[i]?:=by
 rw[heap_grow_old _ _ Hy]
 show (w.heap.modify b _)[i]?=_
 rw[Kx,Iy (Ne.symm bb)]
theorem f72{c:Array Value}{T:TypeId}{z:Nat×Nat}(h:w.heap[b]?=some (.cells c T z)):(grow (Go.Sort.putRow enc (Sort.ahead w m) b o d) os).heap[b]?=some (.cells (putCells enc o d c) T z):=by
 have hi:b<w.heap.size:=(J9.1 h).1
 rw[heap_grow_old _ _ Hy]
 show (w.heap.modify b _)[b]?=_
 rw[Kx,Iw rfl,h]
 rfl
theorem j5h:w.heap.size≤(grow (Go.Sort.putRow enc (Sort.ahead w m) b o d) os).heap.size:=by
 simp[grow,Go.Sort.putRow,mapBlock,Sort.ahead]
theorem fr_pr{X:Nat→Prop}(hb:X b):Fr w.heap.size X w (grow (Go.Sort.putRow enc (Sort.ahead w m) b o d) os):=
 ⟨rfl,rfl,rfl,fun _=>Nat.le_add_right _ _,j5h,fun _ hi hX=>g4j hi (fun e=>hX (e▸hb))⟩
end
abbrev g9e:FuncId:=178
def insI(x:Int):List Int→List Int
 | []=>[x]
 |y::r=>if x≤y then x::y::r else y::insI x r
def c3y(l:List Int):List Int:=l.foldr insI []
theorem c7d(x:Int):∀l,(insI x l).Perm (x::l)
 | []=>.refl _
 |y::r=>by
  simp only[insI]
  split
  ·exact .refl _
  ·exact((c7d x r).cons y).trans (.swap x y r)
theorem c2i:∀l,(c3y l).Perm l
 | []=>.refl _
 |x::l=>(c7d x _).trans ((c2i l).cons x)
theorem b5z(l:List Int):(c3y l).length=l.length:=(c2i l).length_eq
theorem c5f(x:Int):∀l,l.Pairwise (fun a b=>a≤b)→(insI x l).Pairwise (fun a b=>a≤b)
 | [],_=>List.pairwise_singleton _ _
 |y::r,h=>by
  have hc:=Ku.1 h
  simp only[insI]
  split
  ·rename_i bj
   exact Ku.2 ⟨fun z hz=>by
    rcases J8.1 hz with rfl|hz
    ·exact bj
    ·exact Int.le_trans bj (hc.1 z hz),h⟩
  ·rename_i bj
   refine Ku.2 ⟨fun z hz=> ?_,c5f x r hc.2⟩
   rcases J8.1 ((c7d x r).mem_iff.1 hz)with rfl|hz
   ·omega
   ·exact hc.1 z hz
theorem c3n:∀l,(c3y l).Pairwise (fun a b=>a≤b)
 | []=>List.Pairwise.nil
 |x::l=>c5f x _ (c3n l)
theorem d7e(l:List Int):(l.mergeSort fun x y=>decide (x≤y))=c3y l:=by
 have hp:=List.mergeSort_perm l (fun x y=>decide (x≤y))
 refine List.Perm.eq_of_pairwise (le:=fun a b=>a≤b) (fun a b _ _ h1 h2=>Int.le_antisymm h1 h2) ?_ (c3n l) (hp.trans (c2i l).symm)
 have:=List.pairwise_mergeSort (le:=fun x y:Int=>decide (x≤y)) (fun a b c h1 h2=>by simp only[Jz]at*;omega) (fun a b=>by simp only[Jy,Jz];omega) l
 exact this.imp fun h=>E1
def g13:d20:=fun _ sz n g rest=>match rest with
 | []=>if sz=1 then some (b04.is n g∧n≤100000,b04.row (c3y (b04.lst n g)),false)else none
 |_=>none
theorem xSortI:ES g9e g13:=by
 refine⟨⟨_,Go.Proofs.Tryz.func178,Du,Du⟩,?_⟩
 intro A w v T sz n g c rest vals pre g' r hA hv c9 hB hD qt hp
 unfold g13 at qt
 split at qt
 rotate_left
 ·cases qt
 split at qt
 rotate_left
 ·cases qt
 rename_i hz
 subst hz
 cases qt
 obtain⟨gu,hn⟩:=hp
 obtain rfl:vals=[]:=by
  have:=hD.1
  match vals,this with
  | [],_=>rfl
 obtain⟨a,m,rfl,f7,ff,dh,hl,b9⟩:=hB
 rcases Jx n with h0|h0
 ·subst h0
  have d6:=AnyM.slices_Sort_int_none Go.Proofs.Tryz.sortInts a m w
  refine d6.mono ?_
  rintro e w' ⟨rfl,rfl⟩
  refine⟨_,rfl,fun h=>E2,fun _=>rfl,⟨a,m,rfl,f7,ff,dh,fun i hi=>absurd hi Dt,?_⟩,Fr.refl _ _ _⟩
  rcases b9 with h|⟨b,o,vs,c7,rfl,hh,ho,h1,hd⟩
  ·exact .inl h
  ·exact Cw
 ·rcases b9 with h|⟨b,o,vs,c7,rfl,hh,ho,h1,hd⟩
  ·omega
  have hb:b<w.heap.size:=(J9.1 hh).1
  have b8:(b04.lst n g).length=n:=RT.lst_length b04 n g
  have c6:∀i,i<n→o+i<vs.length:=fun i hi=>Dt
  have cq:∀i,i<n→vs[o+i]?=some (.int .i64 ((b04.lst n g).getD i 0)):=by
   intro i hi
   have h9:=c6 i hi
   have vp:=hd i 0 (.int .i64 ((b04.lst n g).getD i 0)) (vs[o+i]) hi (by rw[gu i hi];simp[RT.lst,hi];rfl) (by simp[Iv h9])
   rw[Iv h9]
   generalize vs[o+i]=z at vp⊢
   cases vp
   rfl
  have hH:Holds (Value.int .i64) w b o (b04.lst n g).toArray:=by
   intro t ht
   have tr:t<n:=by simpa[b8]using ht
   refine⟨?_,?_⟩
   ·simp only[World.cell?,hh,Option.isSome_none,Ij,List.getElem?_toArray]
    rw[cq t tr]
    simp[b8,tr]
   ·simp[World.frozen?,hh]
  have d6:=AnyM.slices_Sort_int Go.Proofs.Tryz.sortInts b o m (b04.lst n g) w hH hb Dt
  rw[b8,d7e]at d6
  refine d6.mono ?_
  rintro e w' ⟨rfl,q,os,rfl⟩
  have gk:(c3y (b04.lst n g)).length=n:=by rw[b5z,b8]
  refine⟨_,rfl,fun h=>E2,fun _=>rfl,⟨_,m,rfl,f7,ff,dh,fun i hi=>⟨rfl,rfl⟩,.inr ⟨b,o,(putCells (Value.int .i64) o (c3y (b04.lst n g)).toArray vs.toArray).toList,c7,rfl,?_,?_,?_,?_⟩⟩,fr_pr (b1p c7)⟩
  ·first
   |(rw[f72 hh];done)
   |(rw[f72 hh];rfl)
  ·simp[putCells];omega
  ·intro v hv
   simp only[putCells,Array.toList_mapIdx,List.mem_mapIdx]at hv
   obtain⟨i,hi,rfl⟩:=hv
   split
   ·rfl
   ·exact h1 _ Dv
  ·intro i j s v hi hs hv
   have hj:j=0:=by
    have:=(Iz.1 hs).1
    have:(b04.row (c3y (b04.lst n g)) i).length=1:=rfl
    omega
   subst hj
   have h9:=c6 i hi
   simp only[putCells,Array.toList_mapIdx,List.getElem?_mapIdx,Nat.mul_one,Kz,Iv h9,K7,Jh]at hv
   rw[Iw ⟨Dt,by simp[gk];omega⟩]at hv
   subst hv
   have e:s=.int .i64 ((c3y (b04.lst n g)).getD i 0):=by
    have:(b04.row (c3y (b04.lst n g)) i)[0]?=some (.int .i64 ((c3y (b04.lst n g)).getD i 0)):=rfl
    rw[this]at hs
    exact(Jp hs).symm
   subst e
   rw[show o+i-o=i from Dt,K4 _ i Fu]
   simp[gk,hi]
   exact .int
end Go.Proofs.YtdblhepcmjecgaaGreatDoor.V
namespace Go.Proofs.YtdblhepcmjecgaaGreatDoor.V
open Go
abbrev c68:FuncId:=180
def b73:Kon
 | [.sl 2 n f _]=>some (n≤100000∧∀i,i<n→(f i).all SV.flat0=true,.sl 2 n f none)
 | [.con (.slice none 0 0)]=>some (True,.sl 2 0 (fun _=>[]) none)
 |_=>none
def d63:Fam:=⟨Nat×(Nat→List SV),fun(n,f)=>[.sl 2 n f none],fun(n,f)=>n≤100000∧∀i,i<n→(f i).all SV.flat0=true,fun(n,f)=>.sl 2 n f none⟩
theorem d78:PF c68 b73:=by
 refine conF {} ⟨Dv,Dv,Dv⟩ d63 (fun _ _=>none) b73 ?_ ?_ Go.Proofs.Tryz.func180 Du Du Du ?_
 ·intro args pre s h hp
  unfold b73 at h
  split at h
  ·rename_i n f c
   cases h
   exact By
  ·cases h
   exact C9
  ·cases h
 ·exact Bu
 ·rintro⟨n,f⟩ ⟨hp,dq⟩
  refine wlk _ ?_;(repeat' first|constructor|refine Iu fun hu=> ?_|intro h);all_goals refine Lm ?_
  all_goals(first
   |exact Af
   |(intro i hi;simp;done)
   |skip)
abbrev c7a:FuncId:=182
def b7a:Kon
 | [.sl 3 n f _]=>some (n≤100000∧∀i,i<n→(f i).all SV.flat0=true,.sl 3 n f none)
 | [.con (.slice none 0 0)]=>some (True,.sl 3 0 (fun _=>[]) none)
 |_=>none
def d7u:Fam:=⟨Nat×(Nat→List SV),fun(n,f)=>[.sl 3 n f none],fun(n,f)=>n≤100000∧∀i,i<n→(f i).all SV.flat0=true,fun(n,f)=>.sl 3 n f none⟩
theorem d87:PF c7a b7a:=by
 refine conF {} ⟨Dv,Dv,Dv⟩ d7u (fun _ _=>none) b7a ?_ ?_ Go.Proofs.Tryz.func182 Du Du Du ?_
 ·intro args pre s h hp
  unfold b7a at h
  split at h
  ·rename_i n f c
   cases h
   exact By
  ·cases h
   exact C9
  ·cases h
 ·exact Bu
 ·rintro⟨n,f⟩ ⟨hp,dq⟩
  refine wlk _ ?_;(repeat' first|constructor|refine Iu fun hu=> ?_|intro h);all_goals refine Lm ?_
  all_goals(first
   |exact Af
   |(intro i hi;simp;done)
   |skip)
abbrev c95:FuncId:=85
def b9e:Kon
 | [.sl 1 n f _]=>some (n≤100000∧∀i,i<n→(f i).all SV.flat0=true,.sl 1 n f none)
 | [.con (.slice none 0 0)]=>some (True,.sl 1 0 (fun _=>[]) none)
 |_=>none
def f3j:Fam:=⟨Nat×(Nat→List SV),fun(n,f)=>[.sl 1 n f none],fun(n,f)=>n≤100000∧∀i,i<n→(f i).all SV.flat0=true,fun(n,f)=>.sl 1 n f none⟩
theorem f4m:PF c95 b9e:=by
 refine conF {} ⟨Dv,Dv,Dv⟩ f3j (fun _ _=>none) b9e ?_ ?_ Go.Proofs.Tryz.func85 Du Du Du ?_
 ·intro args pre s h hp
  unfold b9e at h
  split at h
  ·rename_i n f c
   cases h
   exact By
  ·cases h
   exact C9
  ·cases h
 ·exact Bu
 ·rintro⟨n,f⟩ ⟨hp,dq⟩
  refine wlk _ ?_;(repeat' first|constructor|refine Iu fun hu=> ?_|intro h);all_goals refine Lm ?_
  all_goals(first
   |exact Af
   |(intro i hi;simp;done)
   |skip)
structure Ky where
 a:Cl
 b:Cl
 deriving DecidableEq
def kyR:RT Ky:=⟨6,fun k=>[.int .i64 k.a.x,.int .i64 k.a.y,.int .u8 k.a.q,.int .i64 k.b.x,.int .i64 k.b.y,.int .u8 k.b.q],fun l=>match l with
 | [.int _ a,.int _ b,.int _ c,.int _ d,.int _ e,.int _ f]=>⟨⟨a,b,c⟩,⟨d,e,f⟩⟩
 |_=>⟨⟨0,0,0⟩,⟨0,0,0⟩⟩,⟨⟨0,0,0⟩,⟨0,0,0⟩⟩,fun _=>rfl⟩
def d5y(s:Sm):Ky:=⟨s.a,s.b⟩
theorem f9w(S:List Sm)(i:Nat):b3c S i=kyR.row (S.map d5y) i:=by
 have:(S.map d5y).getD i kyR.d=d5y (S.getD i sm0):=by
  simp only[It,Jv];cases S[i]?<;>rfl
 unfold b3c RT.row
 rw[this];rfl
def d9v(b:Bd)(S:List Sm)(K:List Ky):List Blk:=[.cells 207 [.int .i64 b.p.W,.int .i64 b.p.H,.sl 3 b.p.l.length (b20 b.p.l) none,.sl 3 b.pl.length (mvR.row b.pl) none,.sl 3 b.im.length (clR.row b.im) none,.osl 2,.omp 3,.osl 4],
 .fam 143 [(287,2),(146,3),(3,1)] S.length none (fun i=>b75 (S.getD i sm0)),
 .row 3 1 b.ht.length (b04.row b.ht) none,.pmap (.ints [.i64,.i64,.u8,.i64,.i64,.u8]) 1 (b5u S) (b5y S),.row 211 6 K.length (kyR.row K) none]
def j5i:List Blk→Option (Prop×Bd×List Sm×List Ky)
 | [.cells T1 [.int .i64 W,.int .i64 H,cr,pl,im,.osl k1,.omp k2,.osl k3],.fam T4 Ts fn br F,.row T2 z2 hn hf _,.pmap K k4 has idx,.row T3 z3 kn kf _]=>
   match f5z cr,mvR.as pl,clR.as im with
   |some (n,f),some (n2,f2),some (n3,f3)=>if(T1=207∧k1=2∧k2=3∧k3=4∧T2=3∧z2=1)∧(K=.ints [.i64,.i64,.u8,.i64,.i64,.u8]∧k4=1∧T3=211∧z3=6)∧T4=143∧Ts=[(287,2),(146,3),(3,1)]∧br=none then
    some (((d4p n f∧n≤100000)∧mvR.is n2 f2∧clR.is n3 f3∧b04.is hn hf)∧kyR.is kn kf∧(∀q,has q=b5u (smL fn F) q)∧(∀q,has q=true→idx q=b5y (smL fn F) q)∧∀i,i<fn→(F i).le (b75 (j58 (F i))),
    ⟨⟨W,H,crL n f⟩,mvR.lst n2 f2,clR.lst n3 f3,b04.lst hn hf⟩,smL fn F,kyR.lst kn kf)
    else none
   |_,_,_=>none
 |_=>none
theorem g5s{own:List Blk}{q:Prop}{b:Bd}{S:List Sm}{K:List Ky}(h:j5i own=some (q,b,S,K))(hq:q):own.length=5∧d56 5 own (d9v b S K)∧b.p.l.length≤100000:=by
 unfold j5i at h
 split at h
 rotate_left
 ·cases h
 rename_i T1 W H cr pl im k1 k2 k3 T4 Ts fn br F T2 z2 hn hf c1 KK k4 has idx T3 z3 kn kf c2
 split at h
 rotate_left
 ·cases h
 rename_i n f n2 f2 n3 f3 h1 h2 h3
 split at h
 rotate_left
 ·cases h
 rename_i hT
 obtain⟨⟨rfl,rfl,rfl,rfl,rfl,rfl⟩,⟨rfl,rfl,rfl,rfl⟩,rfl,rfl,rfl⟩:=hT
 simp only[Ib]at h
 obtain⟨rfl,rfl,rfl,rfl⟩:=h
 obtain⟨⟨q1,q2,q3,q4⟩,q6,q7,q8,q9⟩:=hq
 refine⟨rfl,⟨⟨?_,?_⟩,⟨?_,?_,rfl,?_⟩,⟨?_,?_,?_,?_⟩,⟨?_,q7,q8⟩,⟨?_,?_,?_,?_⟩,Ix⟩,H1⟩
 ·exact C5
 ·exact Dg
 ·rw[Iw ⟨rfl,rfl,rfl⟩];trivial
 ·exact(c2m fn F).symm
 ·intro i hi
  have:(smL fn F).getD i sm0=j58 (F i):=by simp[smL,hi]
  show (F i).le (b75 ((smL fn F).getD i sm0))
  rw[this]
  exact q9 i hi
 ·exact C5
 ·exact(RT.lst_length b04 hn hf).symm
 ·exact Ix
 ·exact d1p (b04.row_lst q4)
 ·rw[Iw ⟨rfl,rfl,Dy⟩];trivial
 ·exact C5
 ·exact(RT.lst_length kyR kn kf).symm
 ·exact Ix
 ·exact d1p (kyR.row_lst q6)
def b9k(b:Bd)(s:Sm):Sm:={s with ps:=b2d (c63 b.ht) s.ps,ls:=b2d (c6d b.ht) s.ls,en:=c3y s.en}
def smSV(s:Sm):SV:=.agg [.int .i64 s.a.x,.int .i64 s.a.y,.int .u8 s.a.q,.int .i64 s.b.x,.int .i64 s.b.y,.int .u8 s.b.q,.sl 2 s.ps.length (paR.row s.ps) (some s.ps.length),.sl 3 s.ls.length (loR.row s.ls) (some s.ls.length),.sl 1 s.en.length (b04.row s.en) (some s.en.length)]
def f2n(b:Bd)(s:Sm):Prop:=(s.ps.length≤100000∧s.ls.length≤100000∧s.en.length≤100000)∧((∀x∈s.ps,0≤x.a∧x.a<b.ht.length)∧∀x∈s.ls,0≤x.a∧x.a<b.ht.length)∧(∀x∈s.ps,∀y∈s.ps,c63 b.ht x=c63 b.ht y→x=y)∧∀x∈s.ls,∀y∈s.ls,c6d b.ht x=c6d b.ht y→x=y
theorem f2q(b:Bd)(s:Sm):b0x (b9k b s)=b0x s:=rfl
theorem c36(b:Bd)(S:List Sm)(i:Nat):(S.set i (b9k b (S.getD i sm0))).map b0x=S.map b0x:=c0u _ _ _ (f2q b _)
theorem f53(b:Bd)(S:List Sm)(i:Nat):∀q,b5u S q=b5u (S.set i (b9k b (S.getD i sm0))) q:=fun q=>by rw[b7d,b7d,c36]
theorem f45(b:Bd)(S:List Sm)(i:Nat):∀q,b5u S q=true→b5y S q=b5y (S.set i (b9k b (S.getD i sm0))) q:=fun q _=>by rw[b99,b99,c36]
theorem f3n(b:Bd)(S:List Sm)(i:Nat):∀j,j<S.length→b3c S j=b3c (S.set i (b9k b (S.getD i sm0))) j:=fun j hj=>d4m (c36 b S i).symm j hj
theorem f40(b:Bd)(S:List Sm)(i:Nat):S.length=(S.set i (b9k b (S.getD i sm0))).length:=Dv
abbrev f1c:FuncId:=109
def c4h:HK:=fun args own=>match args with
 | [.own 0 0,.fp ok 1 i 0]=>(j5i own).map fun q=>⟨q.1∧ok=true∧i<q.2.2.1.length∧f2n q.2.1 (q.2.2.1.getD i sm0),smSV (b9k q.2.1 (q.2.2.1.getD i sm0)),d9v q.2.1 (q.2.2.1.set i (b9k q.2.1 (q.2.2.1.getD i sm0))) q.2.2.2,[1]⟩
 |_=>none
def g3r:FamH:=⟨(Bd×List Sm×List Ky)×Nat,fun(_,i)=>[.own 0 0,.fp true 1 i 0],fun((b,S,K),_)=>d9v b S K,fun((b,S,_),i)=>b.p.l.length≤100000∧i<S.length∧f2n b (S.getD i sm0),fun((b,S,_),i)=>smSV (b9k b (S.getD i sm0)),fun((b,S,K),i)=>d9v b (S.set i (b9k b (S.getD i sm0))) K,[1]⟩
theorem g46:HS f1c c4h:=by
 refine c90 {l:=[(d4d,c25),(d5s,c1q),(b96,b8x)],fs:=[(c68,b73),(c7a,b7a),(c95,b9e)],fsok:=by simpa using⟨d78,d87,f4m⟩,x:=[(f5v,d0p),(f5n,d1s),(g9e,g13)],G:={g0:=[.focus 1],gx:=fun _=>[.unfocus 1]}} ⟨by simpa using⟨f8r,f9i,d1n⟩,by simpa using⟨j31,j0m,xSortI⟩,Dv⟩ g3r (fun _ _=>none) c4h ?_ ?_ ?_ Go.Proofs.Tryz.func109 Du Du Du ?_
 ·intro args own r h hp
  unfold c4h at h
  split at h
  ·rename_i ok i
   simp only[J1]at h
   obtain⟨⟨q,bd,S,K⟩,hx,rfl⟩:=h
   obtain⟨h1,h2,h3⟩:=g5s hx hp.1
   obtain⟨_,rfl,hp⟩:=hp
   exact⟨((bd,S,K),i),⟨E3,E3,Ix⟩,h1,h2,⟨h3,hp⟩,rfl,rfl,rfl⟩
  ·cases h
 ·exact Bv
 ·intro i;show 5≤5;decide
 ·rintro⟨⟨b,S,K⟩,i⟩ μ ⟨hp0,hi,⟨l1,l2,l3⟩,⟨r1,r2⟩,d1,d2⟩
  refine wlk _ ?_;(repeat' first|constructor|refine Iu fun hu=> ?_|intro h);all_goals refine Lm ?_
  all_goals(try simp only[RT.lst_row]at*)
  all_goals(first
   |exact⟨Ix,hi⟩
   |exact⟨⟨⟨fun _=>Ix,Ix⟩,RT.is_row paR _,l1,r1,d1⟩,fun _ _=>rfl⟩
   |exact⟨⟨⟨fun _=>Ix,Ix⟩,RT.is_row loR _,l2,r2,d2⟩,fun _ _=>rfl⟩
   |exact⟨RT.is_row b04 _,l3⟩
   |exact⟨l1,fun _ _=>rfl⟩
   |exact⟨l2,fun _ _=>rfl⟩
   |exact⟨l3,fun _ _=>rfl⟩
   |exact l1
   |exact l2
   |exact l3
   |exact A2
   |exact(b0p _ _).symm
   |exact Lc some (b0p _ _).symm
   |exact(b5z _).symm
   |exact Lc some (b5z _).symm
   |exact f53 _ _ _
   |exact f45 _ _ _
   |exact f3n _ _ _
   |exact f40 _ _ _
   |(intro j hj
     by_cases e:j=i
     ·subst e
      rw[Iw rfl,b8q hi,Iw rfl]
      exact⟨rfl,(b0p _ _).symm,fun _ _=>rfl,(b0p _ _).symm,fun _ _=>rfl,(b5z _).symm,fun _ _=>rfl,Ix⟩
     ·rw[Iy e,b8q hi,Iy e]
      exact b6y _)
   |skip)
def f7m(q:List Int)(x:Cr):Bool:=decide (q=[x.c,x.e])
def b2m(l:List Cr)(q:List Int):Bool:=l.any (f7m q)
abbrev f0g:FuncId:=146
def c4b:Kon
 | [x]=>match c88 x with
   |some (a,p)=>some (a∧∀c∈p.l,inK .u8 c.e,.mp (.ints [.i64,.u8]) false (b2m p.l) (fun q=>[.bool (b2m p.l q)]))
   |none=>none
 |_=>none
def g74:Fam:=⟨Pt,fun p=>[b6i p],fun p=>p.l.length≤100000∧∀c∈p.l,inK .u8 c.e,fun p=>.mp (.ints [.i64,.u8]) false (b2m p.l) (fun q=>[.bool (b2m p.l q)])⟩
def g5h(p:Pt):Nat→Option Inv
 |3=>some {β:=Nat,ok:=fun i=>i≤p.l.length,st:=fun i=>⟨[⟨13,none,.int .i64 i⟩,⟨12,none,.int .i64 p.l.length⟩,⟨11,none,.sl 3 p.l.length (b20 p.l) none⟩,⟨3,none,.omp 1⟩,⟨2,none,.con (.map none)⟩],[.cells 26 [.int .i64 p.W,.int .i64 p.H,.sl 3 p.l.length (b20 p.l) none],.map (.ints [.i64,.u8]) false (b2m (p.l.take i)) (fun _=>[.bool true])]⟩,μ:=fun i=>p.l.length-i}
 |_=>none
theorem c9t{l:List Cr}{i:Nat}(hi:i<l.length)(q:List Int):(decide (q=[(l.getD i d0).c,(l.getD i d0).e])||b2m (l.take i) q)=b2m (l.take (i+1)) q:=by
 have:l.take (i+1)=l.take i++[l.getD i d0]:=by
  rw[Kn]
  congr 1
  simp[hi]
 unfold b2m
 rw[this,List.any_append]
 simp[f7m,Bool.or_comm]
theorem g3g:PS f0g c4b:=by
 refine con [] Dv g74 g5h c4b ?_ ?_ Go.Proofs.Tryz.func146 Du Du Du ?_
 ·intro args pre s h hp
  unfold c4b at h
  split at h
  ·split at h
   ·rename_i a p hx
    cases h
    exact Di
   ·cases h
  ·cases h
 ·exact Bu
 ·rintro(p:Pt) hp
  replace hp:p.l.length≤100000∧∀c∈p.l,inK .u8 c.e:=hp
  refine wlk _ ?_;(repeat' first|constructor|refine Iu fun hu=> ?_|intro h);all_goals refine Lm ?_
  refine⟨(0:Nat),J5 _,?_,?_⟩
  ·refine wlk _ ?_;(repeat' first|constructor|refine Iu fun hu=> ?_|intro h);all_goals refine Lm ?_
   all_goals first|exact A5|(intro q;first|rfl|(intro hq;exact absurd hq Dv))|skip
  ·intro i hi
   replace hi:i≤p.l.length:=hi
   refine wlk _ ?_;(repeat' first|constructor|refine Iu fun hu=> ?_|intro h);all_goals refine Lm ?_
   all_goals(first
    |(have q:i<p.l.length:=by simpa using h
      first
      |exact An
      |refine⟨i+1,q,Dt,?_⟩)
    |(have q:p.l.length≤i:=by simpa using h
      intro u
      first
      |(rw[Ki q];done)
      |(rw[Ki q];intro w;rw[w]))
    |skip)
   all_goals refine wlk _ ?_;(repeat' first|constructor|refine Iu fun hu=> ?_|intro h);all_goals refine Lm ?_
   all_goals first|exact Aq|(intro u;have q:i<p.l.length:=E1;first|exact c9t q u|(intro _;cases decide (u=[(p.l.getD (i:Int).toNat d0).c,(p.l.getD (i:Int).toNat d0).e])<;>rfl))|skip
def b6v(a b:Mv):Mv:=⟨thT a.t a.x a.y b.t b.x b.y,thX a.t a.x a.y b.t b.x b.y,thY a.t a.x a.y b.t b.x b.y⟩
def b5k(k C:Int):Mv:=⟨keep (b08 k C) (ofT k),keep (b08 k C) (ofX k C),keep (b08 k C) (ofY k C)⟩
def b9h(W H i e:Int):List Int:=[b15 W H i e,b1v W H i e]
def b1c(W H:Int)(has:List Int→Bool)(m:Mv)(i e:Int):Mv:=
 bif has (b9h W H i e)then b6v (b5k (slK W H (b15 W H i e) (b1v W H i e)) (slC W H (b15 W H i e) (b1v W H i e))) m else m
abbrev d1y:FuncId:=147
def d1k:Kon
 | [.int .i64 i,.int .u8 e,.rel 3 1 g 0 0,.rel 1 1 g2 0 0,.rel 1 1 g3 0 0]=>match g 0,g2 0,g3 0 with
   | [.int .i64 W,.int .i64 H,_],[.mp (.ints [.i64,.u8]) false has val],[.sl 3 m h _]=>
     some ((0≤e∧0≤i∧i<m)∧h=mvR.row (mvR.lst m h)∧(∀q,val q=[.bool (has q)])∧(∀x∈mvR.lst m h,0≤x.t∧x.t≤255),
      .agg (mvR.sv (b1c W H has ((mvR.lst m h).getD i.toNat mvR.d) i e)))
   |_,_,_=>none
 |_=>none
def g0y:Fam:=⟨(Int×Int×Int×Int)×SV×(List Int→Bool)×List Mv×Option Nat,
 fun((i,e,W,H),s3,has,L,c)=>[.int .i64 i,.int .u8 e,.rel 3 1 (fun _=>[.int .i64 W,.int .i64 H,s3]) 0 0,.rel 1 1 (fun _=>[.mp (.ints [.i64,.u8]) false has (fun q=>[.bool (has q)])]) 0 0,.rel 1 1 (fun _=>[.sl 3 L.length (mvR.row L) c]) 0 0],
 fun((i,e,_,_),_,_,L,_)=>(0≤e∧0≤i∧i<L.length)∧∀x∈L,0≤x.t∧x.t≤255,
 fun((i,e,W,H),_,has,L,_)=>.agg (mvR.sv (b1c W H has (L.getD i.toNat mvR.d) i e))⟩
theorem j08:PS d1y d1k:=by
 refine con [(g0d,d6z),(c9f,b92),(d62,d0j),(d6r,d1z)] (by simpa using⟨g2s,f4x,j12,j25⟩) g0y (fun _ _=>none) d1k ?_ ?_ Go.Proofs.Tryz.func147 Du Du Du ?_
 ·intro args pre s h hp
  unfold d1k at h
  split at h
  ·split at h
   ·rename_i i e g g2 g3 _ _ _ W H s3 has val m hh c e1 e2 e3
    cases h
    obtain⟨p1,p2,p3,p4⟩:=hp
    have ev:val=fun q=>[.bool (has q)]:=Mj p3
    refine⟨((i,e,W,H),s3,has,mvR.lst m hh,c),?_,⟨by rw[RT.lst_length];exact p1,p4⟩,rfl⟩
    simp only[g0y,b2h,SV.le2,SV.le1,SV.le0,K5,Mp,and_true,RT.lst_length]
    refine⟨fun j hj=> ?_,fun j hj=> ?_,fun j hj=> ?_⟩
    ·rw[show j=0 from Dt,e1]
    ·rw[show j=0 from Dt,e2,ev]
    ·rw[show j=0 from Dt,e3,←p2]
   ·cases h
  ·cases h
 ·exact Cc
 ·rintro⟨⟨i,e,W,H⟩,s3,has,L,c⟩ hp
  replace hp:(0≤e∧0≤i∧i<L.length)∧∀x∈L,0≤x.t∧x.t≤255:=hp
  refine wlk _ ?_;(repeat' first|constructor|refine Iu fun hu=> ?_|intro h);all_goals refine Lm ?_
  all_goals(have ne:0≤b1v W H i e:=by(unfold b1v;split<;>omega))
  all_goals(first
   |exact hp.1.1
   |exact hp.1.2
   |exact ne
   |(intro q;rw[q];rfl)
   |(have q:has (b9h W H i e)=false:=by simpa[b9h]using h
     unfold b1c;rw[q,cond_false])
   |(have q:has (b9h W H i e)=true:=by simpa[b9h]using h
     unfold b1c;rw[q,cond_true];rfl)
   |(have m:L.getD i.toNat mvR.d∈L:=by simp[show i.toNat<L.length from Dt]
     refine⟨?_,hp.2 _ m⟩
     unfold keep ofT
     split<;>omega)
   |(have m:L.getD i.toNat mvR.d∈L:=by simp[It,show i.toNat<L.length from Dt]
     refine⟨?_,hp.2 _ m⟩
     unfold keep ofT
     grind)
   |skip)
theorem nv_le{W H i e:Int}(hs:b0e W H=0)(he:0≤e)(h:b0g W H i e=0):0≤b03 W H i e∧b03 W H i e<4*(W*H):=by
 have hc:=c2t h
 have hq:=g20 (X:=ceX W H i) (Y:=ceY W H i) (c6c W H i).1 he
 unfold b0g at h
 rw[Iw hc]at h
 split at h
 ·rename_i hb
  unfold b03
  rw[Iw hc,Iw hb]
  unfold c41
  rw[Iw h]
  unfold b7w at h
  rw[Iw hs]at h
  split at h
  ·rename_i hd
   have:=j1j (X:=nbX (ceX W H i) (ceY W H i) (ceQ W H i) e) (Y:=nbY (ceX W H i) (ceY W H i) (ceQ W H i) e) hs hd.2.1 hd.2.2.1 hd.2.2.2.1 hd.2.2.2.2
   omega
  ·cases h
 ·cases h
theorem f0k{t x y u z w:Int}(h0:0≤t)(h1:0≤u):0≤thT t x y u z w∧thT t x y u z w≤255:=by
 unfold thT keep
 split
 ·rename_i h
  unfold thE at h
  split at h
  ·rename_i hm
   have:=cT_le h0 (b3m hm.1).1 h1 (b3m hm.2).1
   omega
  ·cases h
 ·omega
theorem j1u(k C:Int):0≤(b5k k C).t∧(b5k k C).t≤255:=by
 simp only[b5k]
 unfold keep ofT
 grind
theorem d54{W H:Int}{has:List Int→Bool}{m:Mv}{i e:Int}(hm:0≤m.t∧m.t≤255):0≤(b1c W H has m i e).t∧(b1c W H has m i e).t≤255:=by
 unfold b1c
 cases has (b9h W H i e)
 ·exact hm
 ·exact f0k (j1u _ _).1 hm.1
theorem d4w{l:List Bool}:∀{n:Nat},n<l.length→l.getD n false=false→(l.set n true).count false+1=l.count false:=by
 induction l with
 |nil=>intro n h;simp at h
 |cons b l ih=>
  intro n h hb
  match n with
  |0=>
   simp at hb
   subst hb
   simp
  |n+1=>
   have:=ih (n:=n) E1 G3
   cases b<;>simp[]<;>omega
theorem c2u{l:List Mv}{n:Nat}{m:Mv}{q:Mv→Prop}(hl:∀x∈l,q x)(hm:q m):∀x∈l.set n m,q x:=by
 intro x hx
 rcases Lb hx with hx|rfl
 ·exact hl x hx
 ·exact hm
def vM(m:Mv):Prop:=0≤m.t∧b1d m.t m.x m.y=0
def vC(c:Cl):Prop:=(-4096≤c.x∧c.x≤4096)∧(-4096≤c.y∧c.y≤4096)∧0≤c.q∧c.q≤3
def cmv(m:Mv)(c:Cl):Cl:=⟨mvX m.t m.x m.y c.x c.y,mvY m.t m.x m.y c.x c.y,mvQ m.t c.q⟩
def bey(c:Cl)(e:Int):Cl:=⟨ndx c.q e+c.x,ndy c.q e+c.y,ndq c.q e⟩
theorem c44{m:Mv}(h:vM m):m.t=0∨m.t=1∨m.t=2∨m.t=3∨m.t=4∨m.t=5∨m.t=6∨m.t=7:=by
 obtain⟨h0,h1⟩:=h
 unfold b1d at h1
 split at h1
 ·omega
 ·omega
theorem j3t{m:Mv}(h:vM m):(-16384≤m.x∧m.x≤16384)∧(-16384≤m.y∧m.y≤16384)∧(m.x+m.y)%2=0:=by
 obtain⟨h0,h1⟩:=h
 unfold b1d at h1
 split at h1
 ·omega
 ·omega
theorem b3i{q:Int}(h:0≤q∧q≤3):q=0∨q=1∨q=2∨q=3:=Dt
theorem b69{e:Int}(h:0≤e∧e<3):e=0∨e=1∨e=2:=Dt
def lin(t:Int)(a b:Int):Int×Int:=if t=0 then(a,b)else if t=1 then(-b,a)else if t=2 then(-a,-b)else if t=3 then(b,-a)else if t=4 then(-a,b)else if t=5 then(-b,-a)else if t=6 then(a,-b)else(b,a)
theorem d1t{t a b:Int}(h:t=0∨t=1∨t=2∨t=3∨t=4∨t=5∨t=6∨t=7):b78 t a b=(lin t a b).1∧b79 t a b=(lin t a b).2:=by
 rcases h with rfl|rfl|rfl|rfl|rfl|rfl|rfl|rfl<;>simp[b78,b79,lin,tA,tB,tC,tD,tb]
theorem po_eq{m:Mv}{a b:Int}(h:vM m)(ha: -9000≤a∧a≤9000)(hb: -9000≤b∧b≤9000):poX m.t m.x m.y a b=(lin m.t a b).1+2*m.x∧poY m.t m.x m.y a b=(lin m.t a b).2+2*m.y:=by
 have h1:=j3t h
 have h2:=@d1t m.t a b (c44 h)
 have e:poE m.t m.x m.y a b=0:=by
  unfold poE
  rw[Iw ⟨h.2,by unfold b7v;rw[if_pos];omega⟩,if_pos]
  rw[h2.1,h2.2]
  unfold b7v
  rw[Iw]
  rcases c44 h with e|e|e|e|e|e|e|e<;>simp only[lin,e]<;>simp<;>omega
 unfold poX poY keep
 rw[Iw e,Iw e,h2.1,h2.2]
 exact C3
theorem f2w{p:Int}(h:p%2=1):g4r p=(p-1)/2:=by
 unfold g4r
 rw[h,Int.tdiv_eq_ediv]
 split<;>omega
def sq(t:Int)(X Y:Int):Int×Int:=if t=0 then(X,Y)else if t=1 then(-Y-1,X)else if t=2 then(-X-1,-Y-1)else if t=3 then(Y,-X-1)else if t=4 then(-X-1,Y)else if t=5 then(-Y-1,-X-1)else if t=6 then(X,-Y-1)else(Y,X)
theorem mv_sq{m:Mv}{X Y:Int}(h:vM m)(hx: -4200≤X∧X≤4200)(hy: -4200≤Y∧Y≤4200):mvX m.t m.x m.y X Y=(sq m.t X Y).1+m.x∧mvY m.t m.x m.y X Y=(sq m.t X Y).2+m.y:=by
 have h2:=@po_eq m (2*X+1) (2*Y+1) h Dt Dt
 unfold mvX mvY
 rw[h2.1,h2.2]
 rcases c44 h with e|e|e|e|e|e|e|e<;>simp only[lin,sq,e]<;>simp<;>(rw[f2w Dt,f2w Dt];omega)
def tq(t:Int)(q:Int):Int:=tb (if t=0 then [0,1,2,3]else if t=1 then [1,2,3,0]else if t=2 then [2,3,0,1]else if t=3 then [3,0,1,2]else if t=4 then [0,3,2,1]else if t=5 then [1,0,3,2]else if t=6 then [2,1,0,3]else [3,2,1,0]) q.toNat
theorem mvQ_tq{t q:Int}(h:t=0∨t=1∨t=2∨t=3∨t=4∨t=5∨t=6∨t=7)(hq:0≤q∧q≤3):mvQ t q=tq t q:=by
 rcases h with rfl|rfl|rfl|rfl|rfl|rfl|rfl|rfl<;>rcases b3i hq with rfl|rfl|rfl|rfl<;>rfl
theorem b34{m:Mv}{c:Cl}(h:vM m)(hc:(-4200≤c.x∧c.x≤4200)∧(-4200≤c.y∧c.y≤4200)∧0≤c.q∧c.q≤3):cmv m c=⟨(sq m.t c.x c.y).1+m.x,(sq m.t c.x c.y).2+m.y,tq m.t c.q⟩:=by
 have h2:=mv_sq h hc.1 hc.2.1
 unfold cmv
 rw[h2.1,h2.2,mvQ_tq (c44 h) hc.2.2]
theorem c72{c:Cl}(h:vC c):(-4200≤c.x∧c.x≤4200)∧(-4200≤c.y∧c.y≤4200)∧0≤c.q∧c.q≤3:=by unfold vC at h;omega
theorem Cl.ext'{a b:Cl}(h1:a.x=b.x)(h2:a.y=b.y)(h3:a.q=b.q):a=b:=by cases a;cases b;simp at*;exact⟨h1,h2,h3⟩
theorem d7z{m:Mv}{c d:Cl}(h:vM m)(hc:vC c)(hd:vC d)(e:cmv m c=cmv m d):c=d:=by
 rw[b34 h (c72 hc),b34 h (c72 hd)]at e
 simp only[Cl.mk.injEq]at e
 obtain⟨e1,e2,e3⟩:=e
 have hq:c.q=d.q:=by
  rcases c44 h with e|e|e|e|e|e|e|e<;>simp only[e,tq]at e3<;>rcases b3i hc.2.2 with e4|e4|e4|e4<;>rcases b3i hd.2.2 with e5|e5|e5|e5<;>rw[e4,e5]at e3⊢ <;>revert e3<;>decide
 refine Cl.ext' ?_ ?_ hq<;>(rcases c44 h with e|e|e|e|e|e|e|e<;>simp only[e,sq]at e1 e2<;>simp at e1 e2<;>omega)
theorem g6x{a b:Mv}(h:thE a.t a.x a.y b.t b.x b.y=0):b1d a.t a.x a.y=0∧b1d b.t b.x b.y=0∧lmE (cT a.t b.t) (b78 b.t a.x a.y+b.x) (b79 b.t a.x a.y+b.y)=0:=by
 unfold thE at h
 split at h
 ·rename_i e;exact⟨e.1,e.2,h⟩
 ·cases h
def tt(t u:Int):Int:=tb (tbl u.toNat) t.toNat
where tbl:Nat→List Int
 |0=>[0,1,2,3,4,5,6,7]
 |1=>[1,2,3,0,5,6,7,4]
 |2=>[2,3,0,1,6,7,4,5]
 |3=>[3,0,1,2,7,4,5,6]
 |4=>[4,7,6,5,0,3,2,1]
 |5=>[5,4,7,6,1,0,3,2]
 |6=>[6,5,4,7,2,1,0,3]
 |_=>[7,6,5,4,3,2,1,0]
theorem cT_tt{t u:Int}(h:t=0∨t=1∨t=2∨t=3∨t=4∨t=5∨t=6∨t=7)(k:u=0∨u=1∨u=2∨u=3∨u=4∨u=5∨u=6∨u=7):cT t u=tt t u:=by
 rcases h with rfl|rfl|rfl|rfl|rfl|rfl|rfl|rfl<;>rcases k with rfl|rfl|rfl|rfl|rfl|rfl|rfl|rfl<;>rfl
theorem c4u{a b:Mv}(ha:0≤a.t)(hb:0≤b.t)(h:thE a.t a.x a.y b.t b.x b.y=0):b6v a b=⟨tt a.t b.t,(lin b.t a.x a.y).1+b.x,(lin b.t a.x a.y).2+b.y⟩∧vM a∧vM b∧vM (b6v a b):=by
 obtain⟨h1,h2,h3⟩:=g6x h
 have va:vM a:=⟨ha,h1⟩
 have vb:vM b:=⟨hb,h2⟩
 have e:=@d1t b.t a.x a.y (c44 vb)
 have e1:b6v a b=⟨cT a.t b.t,b78 b.t a.x a.y+b.x,b79 b.t a.x a.y+b.y⟩:=by simp[b6v,thT,thX,thY,keep,h]
 rw[e1]
 have e2:=cT_tt (c44 va) (c44 vb)
 refine⟨by rw[e.1,e.2,e2],va,vb,?_,?_⟩
 ·show 0≤cT a.t b.t
  rw[e2]
  rcases c44 va with e|e|e|e|e|e|e|e<;>rcases c44 vb with e'|e'|e'|e'|e'|e'|e'|e'<;>rw[e,e']<;>decide
 ·unfold lmE at h3
  split at h3
  ·assumption
  ·cases h3
theorem tq_le{t q:Int}(h:t=0∨t=1∨t=2∨t=3∨t=4∨t=5∨t=6∨t=7)(hq:0≤q∧q≤3):0≤tq t q∧tq t q≤3:=by
 rcases h with rfl|rfl|rfl|rfl|rfl|rfl|rfl|rfl<;>rcases b3i hq with rfl|rfl|rfl|rfl<;>decide
theorem tq_tt{t u q:Int}(h:t=0∨t=1∨t=2∨t=3∨t=4∨t=5∨t=6∨t=7)(k:u=0∨u=1∨u=2∨u=3∨u=4∨u=5∨u=6∨u=7)(hq:0≤q∧q≤3):tq (tt t u) q=tq u (tq t q):=by
 rcases h with rfl|rfl|rfl|rfl|rfl|rfl|rfl|rfl<;>rcases k with rfl|rfl|rfl|rfl|rfl|rfl|rfl|rfl<;>rcases b3i hq with rfl|rfl|rfl|rfl<;>decide
theorem sq_tt{t u X Y x y:Int}(h:t=0∨t=1∨t=2∨t=3∨t=4∨t=5∨t=6∨t=7)(k:u=0∨u=1∨u=2∨u=3∨u=4∨u=5∨u=6∨u=7):(sq (tt t u) X Y).1+(lin u x y).1=(sq u ((sq t X Y).1+x) ((sq t X Y).2+y)).1∧(sq (tt t u) X Y).2+(lin u x y).2=(sq u ((sq t X Y).1+x) ((sq t X Y).2+y)).2:=by
 rcases h with rfl|rfl|rfl|rfl|rfl|rfl|rfl|rfl<;>rcases k with rfl|rfl|rfl|rfl|rfl|rfl|rfl|rfl<;>(simp[sq,tt,tt.tbl,tb,lin];try omega)
theorem d2a{a b:Mv}{c:Cl}(ha:0≤a.t)(hb:0≤b.t)(h:thE a.t a.x a.y b.t b.x b.y=0)(hc:vC c)(hm:vC (cmv a c)):cmv (b6v a b) c=cmv b (cmv a c):=by
 obtain⟨e,va,vb,vt⟩:=c4u ha hb h
 rw[b34 vb (c72 hm),b34 vt (c72 hc),b34 va (c72 hc),e]
 simp only[Cl.mk.injEq]
 have:=@sq_tt a.t b.t c.x c.y a.x a.y (c44 va) (c44 vb)
 refine⟨Dt,Dt,tq_tt (c44 va) (c44 vb) hc.2.2⟩
theorem j55{C:Int}(h: -4096≤C∧C≤4096):b5k 1 C=⟨4,2*C,0⟩∧vM ⟨4,2*C,0⟩:=by
 refine⟨?_,(by show (0:Int)≤4;omega),?_⟩
 ·simp[b5k,keep,b08,h,ofT,ofX,ofY]
 ·exact Cd
theorem j45{C:Int}(h: -4096≤C∧C≤4096):b5k 2 C=⟨6,0,2*C⟩∧vM ⟨6,0,2*C⟩:=by
 refine⟨?_,(by show (0:Int)≤6;omega),?_⟩
 ·simp[b5k,keep,b08,h,ofT,ofX,ofY]
 ·exact Cd
theorem ref_u{C:Int}(h: -4096≤C∧C≤4096):b5k 3 C=⟨5,C,C⟩∧vM ⟨5,C,C⟩:=by
 refine⟨?_,(by show (0:Int)≤5;omega),?_⟩
 ·simp[b5k,keep,b08,h,ofT,ofX,ofY]
 ·exact Cd
theorem ref_d{C:Int}(h: -4096≤C∧C≤4096):b5k 4 C=⟨7,-C,C⟩∧vM ⟨7,-C,C⟩:=by
 refine⟨?_,(by show (0:Int)≤7;omega),?_⟩
 ·simp[b5k,keep,b08,h,ofT,ofX,ofY]
 ·exact Cd
theorem f4b{c:Cl}{e:Int}(he:0≤e∧e<3)(hc:(-300≤c.x∧c.x≤300)∧(-300≤c.y∧c.y≤300)∧0≤c.q∧c.q≤3):
 vM (b5k (ciK c.q e) (ciC c.x c.y c.q e))∧cmv (b5k (ciK c.q e) (ciC c.x c.y c.q e)) c=bey c e∧cmv (b5k (ciK c.q e) (ciC c.x c.y c.q e)) (bey c e)=c∧
 ((-700≤(b5k (ciK c.q e) (ciC c.x c.y c.q e)).x∧(b5k (ciK c.q e) (ciC c.x c.y c.q e)).x≤700)∧ -700≤(b5k (ciK c.q e) (ciC c.x c.y c.q e)).y∧(b5k (ciK c.q e) (ciC c.x c.y c.q e)).y≤700):=by
 obtain⟨X,Y,Q⟩:=c
 simp only at hc
 rcases b3i hc.2.2 with rfl|rfl|rfl|rfl<;>rcases b69 he with rfl|rfl|rfl<;>
 ·simp[ciK,ciC,lqK,lqB,tb]
  first
   |obtain⟨r,vm⟩:=@j55 X Dt
    rw[r]
    refine⟨vm,?_,?_,?_⟩<;>first|exact B1|(rw[b34 vm F9];simp[bey,sq,tq,ndx,ndy,ndq,tb];done)|exact Ab
   |obtain⟨r,vm⟩:=@j55 (X+1) Dt
    rw[r]
    refine⟨vm,?_,?_,?_⟩<;>first|exact B1|(rw[b34 vm F9];simp[bey,sq,tq,ndx,ndy,ndq,tb];done)|exact Ab
   |obtain⟨r,vm⟩:=@j45 Y Dt
    rw[r]
    refine⟨vm,?_,?_,?_⟩<;>first|exact B1|(rw[b34 vm F9];simp[bey,sq,tq,ndx,ndy,ndq,tb];done)|exact Ab
   |obtain⟨r,vm⟩:=@j45 (Y+1) Dt
    rw[r]
    refine⟨vm,?_,?_,?_⟩<;>first|exact B1|(rw[b34 vm F9];simp[bey,sq,tq,ndx,ndy,ndq,tb];done)|exact Ab
   |obtain⟨r,vm⟩:=@ref_u (X+Y+1) Dt
    rw[r]
    refine⟨vm,?_,?_,?_⟩<;>first|exact B1|(rw[b34 vm F9];simp[bey,sq,tq,ndx,ndy,ndq,tb];done)|exact Ab
   |obtain⟨r,vm⟩:=@ref_d (Y-X) Dt
    rw[r]
    refine⟨vm,?_,?_,?_⟩<;>first|exact B1|(rw[b34 vm F9];simp[bey,sq,tq,ndx,ndy,ndq,tb];done)|exact Ab
   |skip
structure BS where
 out:List Mv
 kn:List Bool
 wt:List Int
def c06(W H:Int)(has:List Int→Bool)(s:BS)(i e:Int):Option BS:=
 if b0g W H i e=0 then
  let n:=(b03 W H i e).toNat
  let m:=b1c W H has (s.out.getD i.toNat mvR.d) i e
  let s':BS:=bif s.kn.getD n false then s else⟨s.out.set n m,s.kn.set n true,s.wt++[b03 W H i e]⟩
  if s'.out.getD n mvR.d=m then some s' else none
 else some s
def c2s(W H:Int)(has:List Int→Bool)(i:Int):List Int→BS→Option BS
 | [],s=>some s
 |e::l,s=>(c06 W H has s i e).bind (c2s W H has i l)
def bfs(W H:Int)(has:List Int→Bool):Nat→BS→Option (List Mv)
 |0,s=>match s.wt with
  | []=>some s.out
  |_::_=>none
 |f+1,s=>match s.wt with
  | []=>some s.out
  |i::r=>(c2s W H has i [0,1,2] ⟨s.out,s.kn,r⟩).bind (bfs W H has f)
def b17(p:Pt):Nat:=(4*p.W*p.H).toNat
def bs0(n:Nat):BS:=⟨List.replicate n mvR.d,(List.replicate n false).set 0 true,[0]⟩
def f5a(p:Pt):Option (List Mv):=bfs p.W p.H (b2m p.l) (2*b17 p+1) (bs0 (b17 p))
def b4e(p:Pt):Int:=if(f5a p).isSome then 0 else 11
def b1y(p:Pt):List Mv:=(f5a p).getD []
abbrev nRel:FuncId:=81
def hRel:HK:=fun args own=>match args,own with
 | [x],[]=>match c88 x with
   |some (a,p)=>some ⟨a∧(∀c∈p.l,inK .u8 c.e)∧b0m p=0,.tup [.osl 0,.int .i64 (b4e p)],[.row 28 3 (b1y p).length (mvR.row (b1y p)) none],[]⟩
   |none=>none
 |_,_=>none
def FRel:FamH:=⟨Pt,fun p=>[b6i p],fun _=>[],fun p=>p.l.length≤100000∧(∀c∈p.l,inK .u8 c.e)∧b0m p=0,fun p=>.tup [.osl 0,.int .i64 (b4e p)],fun p=>[.row 28 3 (b1y p).length (mvR.row (b1y p)) none],[]⟩
def d0u(t:Nat)(T:TypeId)(sz:Nat)(st:St):List Ghost:=match b4a t st.ρ with
 |some e=>match e.sv with
  |.osl k=>[.sel [k]]
  |_=>[.nil t T sz,.sel [st.own.length]]
 |none=>[]
def unk(s:BS):Nat:=s.kn.count false
def lens(p:Pt)(s:BS):Prop:=s.out.length=b17 p∧s.kn.length=b17 p∧(∀i∈s.wt,0≤i∧i<b17 p)∧∀m∈s.out,0≤m.t∧m.t≤255
def ownR(p:Pt)(s:BS):List Blk:=[.cells 26 [.int .i64 p.W,.int .i64 p.H,.sl 3 p.l.length (b20 p.l) none],.cells 259 [.mp (.ints [.i64,.u8]) false (b2m p.l) (fun q=>[.bool (b2m p.l q)])],.row 28 3 s.out.length (mvR.row s.out) none,.cells 121 [.osl 2],.row 4 1 s.kn.length (b1x.row s.kn) none,.row 3 1 s.wt.length (b04.row s.wt) none]
def IRel(p:Pt):Nat→Option Inv
 |7=>some {β:=BS×Nat,ok:=fun(s,f)=>lens p s∧f5a p=bfs p.W p.H (b2m p.l) f s∧2*unk s+s.wt.length≤f∧f≤2*b17 p+1,st:=fun(s,_)=>⟨[⟨8,none,.osl 5⟩,⟨7,none,.clo d1y [.own 0 0,.own 1 0,.own 3 0]⟩,⟨6,none,.osl 4⟩,⟨5,none,.own 3 0⟩,⟨3,none,.int .i64 0⟩,⟨2,none,.con (.slice none 0 0)⟩,⟨1,none,.own 0 0⟩],ownR p s⟩,μ:=fun(_,f)=>f,sub:=fun(_,f)=>some fun
   |11=>some {β:=BS×Nat×Int,ok:=fun(s,e,i)=>e≤3∧lens p s∧(0≤i∧i<b17 p)∧f5a p=(c2s p.W p.H (b2m p.l) i ([0,1,2].drop e) s).bind (bfs p.W p.H (b2m p.l) (f-1))∧2*unk s+s.wt.length≤f-1∧0<f∧f≤2*b17 p+1,st:=fun(s,e,i)=>⟨[⟨35,none,.int .u8 e⟩,⟨9,none,.int .i64 i⟩,⟨8,none,.osl 5⟩,⟨7,none,.clo d1y [.own 0 0,.own 1 0,.own 3 0]⟩,⟨6,none,.osl 4⟩,⟨5,none,.own 3 0⟩,⟨3,none,.int .i64 0⟩,⟨2,none,.con (.slice none 0 0)⟩,⟨1,none,.own 0 0⟩],ownR p s⟩,μ:=fun(_,e,_)=>3-e}
   |_=>none}
 |_=>none
theorem f9p{W H:Int}{has:List Int→Bool}{f:Nat}{s:BS}(h:s.wt=[]):bfs W H has f s=some s.out:=by
 cases f<;>simp[bfs,h]
theorem f2v{W H:Int}{has:List Int→Bool}{f:Nat}{s:BS}{i:Int}{r:List Int}(h:s.wt=i::r):bfs W H has (f+1) s=(c2s W H has i [0,1,2] ⟨s.out,s.kn,r⟩).bind (bfs W H has f):=by
 simp[bfs,h]
theorem c9b{W H:Int}{has:List Int→Bool}{i:Int}{e:Nat}{s:BS}(h:e<3):c2s W H has i ([0,1,2].drop e) s=(c06 W H has s i e).bind (c2s W H has i ([0,1,2].drop (e+1))):=by
 have:e=0∨e=1∨e=2:=Dt
 rcases this with rfl|rfl|rfl<;>rfl
theorem mvEq(a b:Mv):(decide (a.t=b.t)&&(decide (a.x=b.x)&&(decide (a.y=b.y)&&true)))=decide (a=b):=by
 cases a;cases b
 simp[Bool.decide_and]
theorem c6s{W H:Int}{has:List Int→Bool}{s:BS}{i e:Int}(h:b0g W H i e=0)(hk:s.kn.getD (b03 W H i e).toNat false=true):
 c06 W H has s i e=if s.out.getD (b03 W H i e).toNat mvR.d=b1c W H has (s.out.getD i.toNat mvR.d) i e then some s else none:=by
 simp only[c06,Iw h,hk,Ls]
theorem f9m{W H:Int}{has:List Int→Bool}{s:BS}{i e:Int}(h:b0g W H i e=0)(hk:s.kn.getD (b03 W H i e).toNat false=false)(hl:(b03 W H i e).toNat<s.out.length):
 c06 W H has s i e=some ⟨s.out.set (b03 W H i e).toNat (b1c W H has (s.out.getD i.toNat mvR.d) i e),s.kn.set (b03 W H i e).toNat true,s.wt++[b03 W H i e]⟩:=by
 simp only[c06,Iw h,hk,cond_false]
 rw[Iw]
 rw[It,K9 hl]
 rfl
theorem d6y{α:Type}(n i:Nat)(d:α):(List.replicate n d).getD i d=d:=by
 rw[It,List.getElem?_replicate]
 split<;>rfl
theorem c5d(n i:Nat)(h:0<n):((List.replicate n false).set 0 true).getD i false=decide (i=0):=by
 match n,i with
 |n+1,0=>rfl
 |n+1,i+1=>simpa[List.replicate_succ]using d6y n i false
theorem c0y{p:Pt}(h:b0e p.W p.H=0):4≤b17 p∧b17 p≤1024∧cnt p.W p.H=b17 p:=by
 have z:=b11 h
 unfold b17 cnt
 rw[Iw h]
 omega
theorem pRel:HS nRel hRel:=by
 refine c90 {l:=[(f0g,c4b),(d97,c8j),(b31,b1i),(d1y,d1k)],G:={gx:=d0u 2 28 3}} ⟨by simpa using⟨g3g,d9j,b2f,j08⟩,Dv,Dv⟩ FRel IRel hRel ?_ ?_ ?_ Go.Proofs.Tryz.func81 Du Du Du ?_
 ·intro args own r h hp
  unfold hRel at h
  split at h
  ·split at h
   ·rename_i a p hx
    cases h
    exact⟨p,⟨(b44 hx hp.1).1,Ix⟩,rfl,Ix,⟨(b44 hx hp.1).2,hp.2⟩,rfl,rfl,rfl⟩
   ·cases h
  ·cases h
 ·exact Bu
 ·intro i;exact J5 _
 ·rintro(p:Pt) μ hp
  replace hp:p.l.length≤100000∧(∀c∈p.l,inK .u8 c.e)∧b0m p=0:=hp
  have hs:=(b0r hp.2.2).1
  obtain⟨n1,n2,n3⟩:=c0y hs
  refine wlk _ ?_;(repeat' first|constructor|refine Iu fun hu=> ?_|intro h);all_goals refine Lm ?_
  all_goals(try simp only[n3,b00])
  all_goals(first
   |exact⟨⟨b09 _,hp.1⟩,hp.2.1⟩
   |omega
   |exact Bg
   |skip)
  refine⟨(bs0 (b17 p),2*b17 p+1),⟨⟨?_,?_,?_,?_⟩,rfl,?_,J2 _⟩,?_,?_⟩
  ·simp[bs0]
  ·simp[bs0]
  ·intro i hi
   simp[bs0]at hi
   omega
  ·intro m hm
   have:m=mvR.d:=(List.mem_replicate.1 hm).2
   rw[this]
   decide
  ·have:unk (bs0 (b17 p))≤b17 p:=by
    unfold unk
    refine L3 List.count_le_length ?_
    simp[bs0]
   show 2*unk (bs0 (b17 p))+1≤_
   omega
  ·refine wlk _ ?_;(repeat' first|constructor|refine Iu fun hu=> ?_|intro h);all_goals refine Lm ?_
   all_goals(first
    |exact A5
    |exact Bn
    |(simp[bs0];done)
    |(intro i hi;show _=mvR.sv (List.getD _ i mvR.d);rw[show (bs0 (b17 p)).out=List.replicate (b17 p) mvR.d from rfl,d6y];rfl)
    |(intro i hi
      show b9m (decide (i=0)) _ _=b1x.sv (List.getD _ i false)
      rw[show (bs0 (b17 p)).kn=(List.replicate (b17 p) false).set 0 true from rfl,c5d _ _ Dt]
      generalize decide (i=0)=b
      cases b<;>rfl)
    |(intro i hi;(have:i=0:=Dt);subst this;rfl)
    |skip)
  ·rintro⟨s,f⟩ ⟨hl,hr,hf,hF⟩
   replace hl:lens p s:=hl
   replace hr:f5a p=bfs p.W p.H (b2m p.l) f s:=hr
   replace hf:2*unk s+s.wt.length≤f:=hf
   replace hF:f≤2*b17 p+1:=hF
   refine wlk _ ?_;(repeat' first|constructor|refine Iu fun hu=> ?_|intro h);all_goals refine Lm ?_
   all_goals(first
    |(have hw:0<s.wt.length:=by simpa using h
      first
      |omega
      |exact hw
      |(obtain⟨i,r,er⟩:∃i r,s.wt=i::r:=by(cases e:s.wt with|nil=>(rw[e]at hw;exact absurd hw Dy)|cons i r=>exact⟨i,r,rfl⟩)
        have hi:=hl.2.2.1 i (by rw[er];simp)
        have b8:s.wt.length=r.length+1:=by rw[er];rfl
        obtain⟨g,rfl⟩:∃g,f=g+1:=⟨f-1,Dt⟩
        refine⟨((⟨s.out,s.kn,r⟩:BS),(0:Nat),i),⟨J5 3,⟨hl.1,hl.2.1,fun x hx=>hl.2.2.1 x (by rw[er];exact Ju _ hx),hl.2.2.2⟩,hi,hr.trans (f2v er),?_,Nat.succ_pos g,?_⟩,?_,?_⟩))
    |(have hw:s.wt=[]:=by(have:s.wt.length=0:=E1);exact Kd this
      have hq:f5a p=some s.out:=by rw[hr,f9p hw]
      first
      |(unfold b1y;rw[hq];rfl)
      |(intro i hi;unfold b1y;rw[hq];rfl)
      |(unfold b4e;rw[hq];rfl))
    |skip)
   ·show 2*unk s+r.length≤g
    omega
   ·show g+1≤_
    omega
   ·refine wlk _ ?_;(repeat' first|constructor|refine Iu fun hu=> ?_|intro h);all_goals refine Lm ?_
    all_goals(first
     |exact A5
     |exact Bn
     |omega
     |(rw[er];rfl)
     |(intro j hj;rw[er];exact g4x b04 i r j)
     |skip)
   ·rintro⟨s,e,i⟩ ⟨he,hl,hi,hr,hf,-,hF⟩
    have:g+1-1=g:=rfl
    replace he:e≤3:=he
    replace hl:lens p s:=hl
    replace hi:0≤i∧i<b17 p:=hi
    replace hr:f5a p=(c2s p.W p.H (b2m p.l) i ([0,1,2].drop e) s).bind (bfs p.W p.H (b2m p.l) g):=hr
    replace hf:2*unk s+s.wt.length≤g:=hf
    replace hF:g+1≤2*b17 p+1:=hF
    have hn:=@nv_le p.W p.H i e hs Dt
    have Qf:(b17 p:Int)=4*(p.W*p.H):=by
     have z:=b11 hs
     unfold b17
     omega
    have lo:=hl.1
    have lk:=hl.2.1
    refine wlk _ ?_;(repeat' first|constructor|refine Iu fun hu=> ?_|intro h);all_goals refine Lm ?_
    all_goals(try simp only[RT.lst_row]at*)
    all_goals(first
     |omega
     |(have e3:(e:Int)<3:=K2 ‹decide (_<(3:Int))=true›
       simp only[inK];omega)
     |exact⟨⟨Dt,hi.1,Dt⟩,rfl,fun _=>rfl,hl.2.2.2⟩
     |(have q:b0g p.W p.H i e=0:=by simpa using(by assumption:(!decide (b0g p.W p.H i e=0))=false)
       have q2:=hn q
       first
       |(constructor<;>omega)
       |omega
       |(show _<_;omega)
       |(refine⟨Dt,?_⟩;show (_+1)*8≤_;omega))
     |skip)
    all_goals(first
     |exact⟨⟨Dt,hi.1,Dt⟩,Ix,fun _=>Ix,hl.2.2.2⟩
     |(have e3:e=3:=by(have q:¬(e:Int)<3:=M8 ‹decide (_<(3:Int))=false›;omega)
       subst e3
       refine⟨(s,g),⟨hl,hr,hf,by show g≤_;omega⟩,Nat.lt_succ_self g,?_⟩)
     |(have e3:e<3:=by(have q:(e:Int)<3:=K2 ‹decide (_<(3:Int))=true›;omega)
       have q:¬b0g p.W p.H i e=0:=by simpa using ‹(!decide (b0g p.W p.H i e=0))=true›
       have h1:c06 p.W p.H (b2m p.l) s i e=some s:=by unfold c06;rw[if_neg q]
       refine⟨(s,e+1,i),⟨e3,hl,hi,H5,hf,Nat.succ_pos g,hF⟩,Gd,?_⟩)
     |(exfalso;simp at h;done)
     |(have e3:e<3:=by(have q:(e:Int)<3:=K2 ‹decide (_<(3:Int))=true›;omega)
       have q:b0g p.W p.H i e=0:=Hz
       have kk:s.kn.getD (b03 p.W p.H i e).toNat false=true:=by simpa[b1x]using ‹(!s.kn.getD (b03 p.W p.H i e).toNat b1x.d)=false›
       first
       |(have bb:(!decide (s.out.getD (b03 p.W p.H i e).toNat mvR.d=b1c p.W p.H (b2m p.l) (s.out.getD i.toNat mvR.d) i e))=true:=by rw[←mvEq];exact h
         have ma:f5a p=none:=by rw[hr,c9b e3,c6s q kk,Iy (by simpa using bb)];rfl
         first
         |(unfold b1y;rw[ma];rfl)
         |(unfold b4e;rw[ma];rfl))
       |(have je:(!decide (s.out.getD (b03 p.W p.H i e).toNat mvR.d=b1c p.W p.H (b2m p.l) (s.out.getD i.toNat mvR.d) i e))=false:=by rw[←mvEq];exact h
         have h1:c06 p.W p.H (b2m p.l) s i e=some s:=by rw[c6s q kk,Iw (by simpa using je)]
         refine⟨(s,e+1,i),⟨e3,hl,hi,H5,hf,Nat.succ_pos g,hF⟩,Gd,?_⟩))
     |(have e3:e<3:=by(have q:(e:Int)<3:=K2 ‹decide (_<(3:Int))=true›;omega)
       have q:b0g p.W p.H i e=0:=Hz
       have q2:=hn q
       have kk:s.kn.getD (b03 p.W p.H i e).toNat false=false:=by simpa[b1x]using ‹(!s.kn.getD (b03 p.W p.H i e).toNat b1x.d)=true›
       have h1:=f9m (has:=b2m p.l) q kk Dt
       have hc:=d4w (n:=(b03 p.W p.H i e).toNat) Dt kk
       have hmi:0≤(s.out.getD i.toNat mvR.d).t∧(s.out.getD i.toNat mvR.d).t≤255:=hl.2.2.2 _ (by simp[show i.toNat<s.out.length from Dt])
       refine⟨(⟨s.out.set (b03 p.W p.H i e).toNat (b1c p.W p.H (b2m p.l) (s.out.getD i.toNat mvR.d) i e),s.kn.set (b03 p.W p.H i e).toNat true,s.wt++[b03 p.W p.H i e]⟩,e+1,i),⟨e3,⟨by simp[lo],by simp[lk],fun x hx=> ?_,c2u hl.2.2.2 (d54 hmi)⟩,hi,H5,?_,Nat.succ_pos g,hF⟩,Gd,?_⟩)
     |skip)
    all_goals(first
     |(rcases Jf.1 (by assumption:_∈_++_)with hx|hx
       ·exact hl.2.2.1 _ hx
       ·rw[Jk.1 hx];omega)
     |(show 2*(s.kn.set _ true).count false+(s.wt++[_]).length≤g
       unfold unk at hf
       simp only[Ig]
       omega)
     |skip)
    all_goals refine wlk _ ?_;(repeat' first|constructor|refine Iu fun hu=> ?_|intro h);all_goals refine Lm ?_
    all_goals(first
     |exact A5
     |exact Bn
     |omega
     |(simp;done)
     |(intro j hj
       by_cases ej:j=(b03 p.W p.H i e).toNat
       ·rw[Jw ej,b8n mvR Dt ej];rfl
       ·rw[Jq ej,c2p mvR ej];rfl)
     |(intro j hj
       by_cases ej:j=(b03 p.W p.H i e).toNat
       ·rw[Jw ej,b8n b1x Dt ej];rfl
       ·rw[Jq ej,c2p b1x ej];rfl)
     |(intro j hj
       by_cases q:j<s.wt.length
       ·rw[Iw q,b8g b04 q]
       ·rw[Iy q,show j=s.wt.length from Dt,Lv,b87];rfl)
     |skip)
theorem f8p{W H:Int}{has:List Int→Bool}{s s':BS}{i e:Int}(h:c06 W H has s i e=some s')(hr:∀m∈s.out,0≤m.t∧m.t≤255):s'.out.length=s.out.length∧∀m∈s'.out,0≤m.t∧m.t≤255:=by
 unfold c06 at h
 split at h
 ·simp only at h
  split at h
  ·cases h
   cases s.kn.getD (b03 W H i e).toNat false with
   |true=>exact⟨rfl,hr⟩
   |false=>
    simp only[cond_false]
    refine⟨Dv,c2u hr (d54 ?_)⟩
    rw[It]
    cases hg:s.out[i.toNat]? with
    |none=>decide
    |some m=>exact hr m (J0 hg)
  ·cases h
 ·cases h;exact⟨rfl,hr⟩
theorem d5n{W H:Int}{has:List Int→Bool}{i:Int}:∀(l:List Int) {s s':BS},c2s W H has i l s=some s'→(∀m∈s.out,0≤m.t∧m.t≤255)→s'.out.length=s.out.length∧∀m∈s'.out,0≤m.t∧m.t≤255
 | [],s,s',h,hr=>by cases h;exact⟨rfl,hr⟩
 |e::l,s,s',h,hr=>by
  simp only[c2s,J3]at h
  obtain⟨s1,h1,h2⟩:=h
  obtain⟨a,b⟩:=f8p h1 hr
  obtain⟨c,d⟩:=d5n l h2 b
  exact⟨c.trans a,d⟩
theorem g2b{W H:Int}{has:List Int→Bool}:∀(f:Nat) {s:BS} {l:List Mv},bfs W H has f s=some l→(∀m∈s.out,0≤m.t∧m.t≤255)→l.length=s.out.length∧∀m∈l,0≤m.t∧m.t≤255
 |0,s,l,h,hr=>by
  simp only[bfs]at h
  split at h<;>cases h
  exact⟨rfl,hr⟩
 |f+1,s,l,h,hr=>by
  simp only[bfs]at h
  split at h
  ·cases h;exact⟨rfl,hr⟩
  ·simp only[J3]at h
   obtain⟨s1,h1,h2⟩:=h
   obtain⟨a,b⟩:=d5n _ h1 (s:=⟨s.out,s.kn,_⟩) hr
   obtain⟨c,d⟩:=g2b f h2 b
   exact⟨c.trans a,d⟩
theorem d1g(p:Pt):(b4e p=0→(b1y p).length=b17 p)∧(∀m∈b1y p,0≤m.t∧m.t≤255)∧(b1y p).length≤b17 p:=by
 unfold b4e b1y
 cases h:f5a p with
 |none=>simp
 |some l=>
  have:=g2b _ h (fun m hm=>by
   have:m=mvR.d:=(List.mem_replicate.1 hm).2
   rw[this];decide)
  simp only[bs0,List.length_replicate]at this
  exact⟨fun _=>this.1,this.2,Nat.le_of_eq this.1⟩
def plE(r m:Mv):Int:=thE m.t m.x m.y r.t r.x r.y
def imE(W H:Int)(m:Mv)(i:Nat):Int:=cmE m.t m.x m.y (ceX W H i) (ceY W H i) (ceQ W H i)
def imC(W H:Int)(m:Mv)(i:Nat):Cl:=⟨keep (imE W H m i) (mvX m.t m.x m.y (ceX W H i) (ceY W H i)),keep (imE W H m i) (mvY m.t m.x m.y (ceX W H i) (ceY W H i)),keep (imE W H m i) (mvQ m.t (ceQ W H i))⟩
def boE(p:Pt)(r:Mv)(i:Nat):Int:=if plE r ((b1y p).getD i mvR.d)=0 then imE p.W p.H (b6v ((b1y p).getD i mvR.d) r) i else plE r ((b1y p).getD i mvR.d)
def b0w(p:Pt)(r:Mv):Int:=if b0m p=0 then(if b1d r.t r.x r.y=0 then(if b4e p=0 then b6e (boE p r) (b1y p).length 0 else b4e p)else 1)else b0m p
def b0b(p:Pt)(r:Mv):List Mv:=if b0w p r=0 then(b1y p).map fun m=>b6v m r else []
def b01(p:Pt)(r:Mv):List Cl:=if b0w p r=0 then(List.range (b1y p).length).map fun i=>imC p.W p.H (b6v ((b1y p).getD i mvR.d) r) i else []
def boP(p:Pt)(r:Mv)(j:Nat):Mv:=b6v ((b1y p).getD j mvR.d) r
def boI(p:Pt)(r:Mv)(j:Nat):Cl:=imC p.W p.H (boP p r j) j
theorem b50{p:Pt}{r:Mv}(h:b0w p r=0):(b0b p r).length=(b1y p).length∧∀j,j<(b1y p).length→(b0b p r).getD j mvR.d=boP p r j:=by
 unfold b0b
 rw[Iw h]
 refine⟨Dv,fun j hj=> ?_⟩
 simp[hj,boP]
theorem b7g{p:Pt}{r:Mv}(h:b0w p r=0):(b01 p r).length=(b1y p).length∧∀j,j<(b1y p).length→(b01 p r).getD j clR.d=boI p r j:=by
 unfold b01
 rw[Iw h]
 refine⟨Dv,fun j hj=> ?_⟩
 simp[hj,boI,boP]
theorem c0m{p:Pt}{r:Mv}(h:b0w p r≠0):b0b p r=[]∧b01 p r=[]:=by
 unfold b0b b01
 rw[Iy h,Iy h]
 exact C3
theorem b5q(p:Pt):(⟨p.W,p.H,crL p.l.length (b20 p.l)⟩:Pt)=p:=by rw[b00]
def g2n(r:Mv):SV:=.agg [.int .u8 r.t,.int .i64 r.x,.int .i64 r.y]
abbrev g2v:FuncId:=49
def f3i:Kon
 | [x,.agg [.int .u8 t,.int .i64 a,.int .i64 b]]=>match c88 x with
   |some (q,p)=>some ((q∧∀c∈p.l,inK .u8 c.e)∧0≤t∧t≤255,.tup [.sl 3 (b0b p ⟨t,a,b⟩).length (mvR.row (b0b p ⟨t,a,b⟩)) none,.sl 3 (b01 p ⟨t,a,b⟩).length (clR.row (b01 p ⟨t,a,b⟩)) none,.int .i64 (b0w p ⟨t,a,b⟩)])
   |none=>none
 |_=>none
def FBoth:Fam:=⟨Pt×Mv,fun(p,r)=>[b6i p,g2n r],fun(p,r)=>(p.l.length≤100000∧∀c∈p.l,inK .u8 c.e)∧0≤r.t∧r.t≤255,fun(p,r)=>.tup [.sl 3 (b0b p r).length (mvR.row (b0b p r)) none,.sl 3 (b01 p r).length (clR.row (b01 p r)) none,.int .i64 (b0w p r)]⟩
def IBoth:Pt×Mv→Nat→Option Inv
 |(p,r),11=>some {β:=Nat,ok:=fun i=>i≤(b1y p).length∧b6e (boE p r) (b1y p).length 0=b6e (boE p r) ((b1y p).length-i) i,st:=fun i=>⟨[⟨36,none,.int .i64 i⟩,⟨35,none,.int .i64 (b1y p).length⟩,⟨34,none,.osl 2⟩,⟨10,none,.osl 3⟩,⟨8,none,.osl 2⟩,⟨6,none,.int .i64 0⟩,⟨5,none,.con (.slice none 0 0)⟩,⟨4,none,.con (.slice none 0 0)⟩,⟨3,none,.own 1 0⟩,⟨2,none,.own 0 0⟩],[.cells 26 [.int .i64 p.W,.int .i64 p.H,.sl 3 p.l.length (b20 p.l) none],.cells 28 [.int .u8 r.t,.int .i64 r.x,.int .i64 r.y],.row 28 3 (b1y p).length (fun j=>mvR.sv (upto (boP p r) (fun j=>(b1y p).getD j mvR.d) i j)) none,.row 54 3 (b1y p).length (fun j=>clR.sv (upto (boI p r) (fun _=>clR.d) i j)) none]⟩,μ:=fun i=>(b1y p).length-i}
 |_,_=>none
theorem j4a:PS g2v f3i:=by
 refine f04 {l:=[(d7f,c6j),(b64,b47),(c70,b3j),(d6r,d1z),(c16,b6n)],h:=[(nRel,hRel)]} ⟨by simpa using⟨f6z,b7j,c0c,j25,c7j⟩,Dv,by simpa using pRel⟩ FBoth IBoth f3i ?_ ?_ Go.Proofs.Tryz.func49 Du Du Du ?_
 ·intro args pre s h hp
  unfold f3i at h
  split at h
  ·rename_i x t a b
   split at h
   ·rename_i q p hx
    cases h
    exact⟨(p,⟨t,a,b⟩),⟨(b44 hx hp.1.1).1,H6,Ix⟩,⟨⟨(b44 hx hp.1.1).2,hp.1.2⟩,hp.2⟩,rfl⟩
   ·cases h
  ·cases h
 ·exact Bv
 ·rintro⟨p,r⟩ hp
  replace hp:(p.l.length≤100000∧∀c∈p.l,inK .u8 c.e)∧0≤r.t∧r.t≤255:=hp
  have b1:b0m p≠0→b0w p r=b0m p:=fun h=>by unfold b0w;rw[if_neg h]
  have b2:b0m p=0→b1d r.t r.x r.y≠0→b0w p r=1:=fun h h'=>by unfold b0w;rw[if_pos h,if_neg h']
  have b3:b0m p=0→b1d r.t r.x r.y=0→b4e p≠0→b0w p r=b4e p:=fun h h' h2=>by unfold b0w;rw[if_pos h,if_pos h',if_neg h2]
  have b4:b0m p=0→b1d r.t r.x r.y=0→b4e p=0→b0w p r=b6e (boE p r) (b1y p).length 0:=fun h h' h2=>by unfold b0w;rw[if_pos h,if_pos h',if_pos h2]
  have b5:b0w p r≠0→(b0b p r).length=0∧(b01 p r).length=0:=fun h=>by rw[(c0m h).1,(c0m h).2];exact⟨rfl,rfl⟩
  have rl:=d1g p
  refine wlk _ ?_;(repeat' first|constructor|refine Iu fun hu=> ?_|intro h);all_goals refine Lm ?_
  all_goals(try simp only[b00]at*)
  all_goals(first
   |exact⟨⟨b09 _,hp.1.1⟩,hp.1.2⟩
   |exact hp.2
   |(have e0:b0m p=0:=by simpa using ‹(!decide (b0m p=0))=false›
     exact⟨⟨b09 _,hp.1.1⟩,hp.1.2,e0⟩)
   |(fail_if_success (with_reducible refine Exists.intro ?_ ?_)
     have h1:=b5
     have q1:=b1
     have q2:=b2
     have q3:=b3
     clear b1 b2 b3 b4 b5 rl
     simp only[I9,Ie]at*
     first
     |(have e:=q1 Dx;first|exact Bk)
     |(have e:=q2 Dx Dx;first|exact(h1 Fa).1|exact(h1 Fa).2|exact e.symm)
     |(have e:=q3 Dx Dx Dx;first|exact Bk))
   |skip)
  all_goals(
   have e0:b0m p=0:=K2 (by simpa using ‹(!decide (b0m ⟨p.W,p.H,p.l⟩=0))=false›)
   have e1:b1d r.t r.x r.y=0:=K2 (by simpa using ‹(!decide (b1d r.t r.x r.y=0))=false›)
   have e2:b4e p=0:=K2 (by simpa using ‹(!decide (b4e ⟨p.W,p.H,p.l⟩=0))=false›)
   have hs:=(b0r e0).1
   obtain⟨n1,n2,n3⟩:=c0y hs
   have rl1:=rl.1 e2
   have eb:=b4 e0 e1 e2)
  ·have:(b1y ⟨p.W,p.H,p.l⟩).length=b17 p:=rl1
   refine⟨Dt,Dt,c34 Du Dt Dt,Dt⟩
  refine⟨(0:Nat),⟨J5 _,rfl⟩,?_,?_⟩
  ·refine wlk _ ?_;(repeat' first|constructor|refine Iu fun hu=> ?_|intro h);all_goals refine Lm ?_
   all_goals(first
    |exact A5
    |(intro j hj;show _=mvR.sv (upto _ _ 0 j);rw[c1s];rfl)
    |(intro j hj;show _=clR.sv (upto _ _ 0 j);rw[c1s];rfl)
    |skip)
  ·intro i hi
   replace hi:i≤(b1y p).length∧b6e (boE p r) (b1y p).length 0=b6e (boE p r) ((b1y p).length-i) i:=hi
   have hm:0≤((b1y p).getD i mvR.d).t∧((b1y p).getD i mvR.d).t≤255:=by
    rw[It]
    cases hg:(b1y p)[i]? with
    |none=>decide
    |some m=>exact rl.2.1 m (J0 hg)
   have qu:=f0k (x:=((b1y p).getD i mvR.d).x) (y:=((b1y p).getD i mvR.d).y) (z:=r.x) (w:=r.y) hm.1 hp.2.1
   have P7:=c6c p.W p.H i
   have c0:i<(b1y p).length→boE p r i≠0→b0w p r=boE p r i:=fun h h'=>by
    rw[eb,hi.2,show (b1y p).length-i=((b1y p).length-(i+1))+1 from Dt]
    simp only[b6e]
    rw[Iy h']
   have c1:i<(b1y p).length→boE p r i=0→b6e (boE p r) (b1y p).length 0=b6e (boE p r) ((b1y p).length-(i+1)) (i+1):=fun h h'=>by
    rw[hi.2,show (b1y p).length-i=((b1y p).length-(i+1))+1 from Dt]
    simp only[b6e]
    rw[Iw h']
   have c2:¬i<(b1y p).length→b0w p r=0:=fun h=>by
    rw[eb,hi.2,show (b1y p).length-i=0 from Dt]
    rfl
   have d1:plE r ((b1y p).getD i mvR.d)≠0→boE p r i=plE r ((b1y p).getD i mvR.d):=fun h=>by unfold boE;rw[if_neg h]
   have d2:plE r ((b1y p).getD i mvR.d)=0→boE p r i=imE p.W p.H (boP p r i) i:=fun h=>by unfold boE;rw[if_pos h];rfl
   refine wlk _ ?_;(repeat' first|constructor|refine Iu fun hu=> ?_|intro h);all_goals refine Lm ?_
   all_goals(try simp only[I8,c7u _ _ (J2 i),Mn,Ls,I9]at*)
   all_goals(try(replace h9:i<(b1y p).length:=Dt))
   all_goals(first
    |omega
    |exact⟨hm,hp.2⟩
    |exact⟨qu.1,qu.2,P7.1⟩
    |exact A4
    |(show i<(b1y p).length;omega)
    |(have e:=d1 Dx
      have e2:=c0 Dt (by rw[e];assumption)
      first
      |exact Be)
    |(have e:=d2 Dx
      have e2:=c0 Dt (by rw[e];assumption)
      first
      |exact Be)
    |(have e:=d2 Dx
      refine⟨i+1,⟨Dt,c1 Dt (by rw[e];assumption)⟩,Dt,?_⟩)
    |(have e:=c2 Dt
      first
      |exact e.symm
      |exact(b50 e).1.symm
      |exact(b7g e).1.symm
      |(intro j hj;show mvR.sv _=mvR.sv _;rw[b9z _ _ Dt,(b50 e).2 j Dt])
      |(intro j hj;show clR.sv _=clR.sv _;rw[b9z _ _ Dt,(b7g e).2 j Dt]))
    |skip)
   all_goals refine wlk _ ?_;(repeat' first|constructor|refine Iu fun hu=> ?_|intro h);all_goals refine Lm ?_
   all_goals(try simp only[]at*)
   all_goals(first
    |exact Aj
    |(intro j hj;exact b6h mvR (fun _ _=>rfl) (fun _ _=>rfl) (boP p r) _ i j)
    |(intro j hj;exact b6h clR (fun _ _=>rfl) (fun _ _=>rfl) (boI p r) _ i j)
    |skip)
def b02(W H i:Int):Cl:=⟨ceX W H i,ceY W H i,ceQ W H i⟩
theorem c8a{W H:Int}(h:b0e W H=0):1≤W∧1≤H∧W≤256∧H≤256∧W*H≤256:=by
 unfold b0e at h
 split at h
 ·assumption
 ·cases h
theorem ce_ok{W H i:Int}(hs:b0e W H=0)(h0:0≤i)(h:i<4*W*H):b5p W H i=0:=by
 simp[b5p,hs,g3z,h0,h]
theorem b58{W H i:Int}(hs:b0e W H=0)(h0:0≤i)(h:i<4*W*H):b02 W H i=⟨i/4%W,i/4/W,i%4⟩:=by
 have e:=ce_ok hs h0 h
 simp[b02,ceX,ceY,ceQ,e]
theorem b3y{W H i:Int}(hs:b0e W H=0)(h0:0≤i)(h:i<4*W*H):
 (0≤(b02 W H i).x∧(b02 W H i).x<W)∧(0≤(b02 W H i).y∧(b02 W H i).y<H)∧(0≤(b02 W H i).q∧(b02 W H i).q≤3)∧i=4*((b02 W H i).y*W+(b02 W H i).x)+(b02 W H i).q:=by
 have hw:=c8a hs
 rw[b58 hs h0 h]
 simp only
 have a1:=Int.emod_nonneg (i/4) (show W≠0 from Dt)
 have a2:=Int.emod_lt_of_pos (i/4) (show 0<W from Dt)
 have a3:0≤i/4/W:=Int.ediv_nonneg Dt Dt
 have a4:i/4/W<H:=by
  apply Int.ediv_lt_of_lt_mul Dt
  have:4*W*H=4*(H*W):=by rw[Int.mul_assoc,Int.mul_comm W H]
  omega
 have a5:=Int.mul_ediv_add_emod (i/4) W
 have a6:i/4/W*W=W*(i/4/W):=Int.mul_comm _ _
 omega
theorem j5f{W H x y q:Int}(hs:b0e W H=0)(hx:0≤x∧x<W)(hy:0≤y∧y<H)(hq:0≤q∧q≤3):0≤4*(y*W+x)+q∧4*(y*W+x)+q<4*W*H∧b02 W H (4*(y*W+x)+q)=⟨x,y,q⟩:=by
 have hw:=c8a hs
 have b0:0≤y*W:=M3 hy.1 Dt
 have b1:y*W+x<W*H:=by
  have:(y+1)*W≤H*W:=Int.mul_le_mul_of_nonneg_right Dt Dt
  rw[Int.add_mul,Int.one_mul,Int.mul_comm H W]at this
  omega
 have b2:4*W*H=4*(W*H):=Int.mul_assoc _ _ _
 have h0:0≤4*(y*W+x)+q:=Dt
 have h1:4*(y*W+x)+q<4*W*H:=Dt
 refine⟨h0,h1,?_⟩
 rw[b58 hs h0 h1]
 have e1:(4*(y*W+x)+q)/4=y*W+x:=Dt
 rw[e1]
 refine Cl.ext' ?_ ?_ ?_
 ·show (y*W+x)%W=x
  rw[Int.add_comm,Int.add_mul_emod_self_right]
  exact Int.emod_eq_of_lt hx.1 hx.2
 ·show (y*W+x)/W=y
  rw[Int.add_comm,Int.add_mul_ediv_right _ _ Dt,Int.ediv_eq_zero_of_lt hx.1 hx.2]
  omega
 ·show (4*(y*W+x)+q)%4=q
  omega
theorem b9q{c:Cl}{e:Int}(hq:0≤c.q∧c.q≤3)(he:0≤e∧e<3):(c.x-1≤(bey c e).x∧(bey c e).x≤c.x+1)∧(c.y-1≤(bey c e).y∧(bey c e).y≤c.y+1)∧(0≤(bey c e).q∧(bey c e).q≤3):=by
 obtain⟨X,Y,Q⟩:=c
 simp only at hq
 rcases b3i hq with rfl|rfl|rfl|rfl<;>rcases b69 he with rfl|rfl|rfl<;>(simp[bey,ndx,ndy,ndq,tb];try omega)
theorem d7g{c:Cl}{e:Int}(hq:0≤c.q∧c.q≤3)(he:0≤e∧e<3):bey (bey c e) e=c:=by
 obtain⟨X,Y,Q⟩:=c
 simp only at hq
 rcases b3i hq with rfl|rfl|rfl|rfl<;>rcases b69 he with rfl|rfl|rfl<;>(simp[bey,ndx,ndy,ndq,tb];try omega)
theorem g7w{W H i e:Int}(hs:b0e W H=0)(h0:0≤i)(h:i<4*W*H)(he:0≤e∧e<3):b3t (b02 W H i).x (b02 W H i).y (b02 W H i).q e=0:=by
 have hw:=c8a hs
 have hc:=b3y hs h0 h
 have hb:=b9q hc.2.2.1 he
 simp only[bey]at hb
 unfold b3t
 rw[Iw ⟨Ge,Dt⟩,Iw]
 unfold b0q
 rw[Iw]
 omega
theorem d53{W H i e:Int}(hs:b0e W H=0)(h0:0≤i)(h:i<4*W*H)(he:0≤e∧e<3):
 (b0g W H i e=0↔(0≤(bey (b02 W H i) e).x∧(bey (b02 W H i) e).x<W)∧0≤(bey (b02 W H i) e).y∧(bey (b02 W H i) e).y<H)∧
 (b0g W H i e=0→b03 W H i e=4*((bey (b02 W H i) e).y*W+(bey (b02 W H i) e).x)+(bey (b02 W H i) e).q):=by
 have hw:=c8a hs
 have hc:=b3y hs h0 h
 have hb:=b9q hc.2.2.1 he
 have e1:=ce_ok hs h0 h
 have e2:=g7w hs h0 h he
 have e2':b3t (ceX W H i) (ceY W H i) (ceQ W H i) e=0:=e2
 have e3:nbX (ceX W H i) (ceY W H i) (ceQ W H i) e=(bey (b02 W H i) e).x:=by simp[nbX,e2',bey,b02]
 have e4:nbY (ceX W H i) (ceY W H i) (ceQ W H i) e=(bey (b02 W H i) e).y:=by simp[nbY,e2',bey,b02]
 have e5:nbQ (ceX W H i) (ceY W H i) (ceQ W H i) e=(bey (b02 W H i) e).q:=by simp[nbQ,e2',bey,b02]
 have e6:b0g W H i e=b7w W H (bey (b02 W H i) e).x (bey (b02 W H i) e).y (bey (b02 W H i) e).q:=by simp[b0g,e1,e2',e3,e4,e5]
 have e7:b03 W H i e=c41 W H (bey (b02 W H i) e).x (bey (b02 W H i) e).y (bey (b02 W H i) e).q:=by simp[b03,e1,e2',e3,e4,e5]
 rw[e6,e7]
 have e8:b0q (bey (b02 W H i) e).x (bey (b02 W H i) e).y (bey (b02 W H i) e).q=0:=Ge
 refine⟨?_,fun h=>by simp[c41,h]⟩
 unfold b7w
 rw[Iw hs]
 constructor
 ·intro h
  split at h
  ·rename_i h2;exact⟨⟨h2.2.1,h2.2.2.1⟩,h2.2.2.2⟩
  ·cases h
 ·intro h
  rw[Iw ⟨e8,h.1.1,h.1.2,h.2⟩]
theorem b56{W H i e:Int}(hs:b0e W H=0)(h0:0≤i)(h:i<4*W*H)(he:0≤e∧e<3)(hn:b0g W H i e=0):
 (0≤b03 W H i e∧b03 W H i e<4*W*H)∧b02 W H (b03 W H i e)=bey (b02 W H i) e:=by
 have hc:=b3y hs h0 h
 have hb:=b9q hc.2.2.1 he
 have hi:=d53 hs h0 h he
 have h1:=hi.1.1 hn
 have h2:=j5f hs h1.1 h1.2 hb.2.2
 rw[hi.2 hn]
 exact⟨⟨h2.1,h2.2.1⟩,h2.2.2⟩
theorem d11{W H i e:Int}(hs:b0e W H=0)(h0:0≤i)(h:i<4*W*H)(he:0≤e∧e<3)(hn:b0g W H i e=0):
 b0g W H (b03 W H i e) e=0∧b03 W H (b03 W H i e) e=i:=by
 have hc:=b3y hs h0 h
 obtain⟨⟨n0,n1⟩,n2⟩:=b56 hs h0 h he hn
 have hi:=d53 hs n0 n1 he
 rw[n2,d7g hc.2.2.1 he]at hi
 have h1:b0g W H (b03 W H i e) e=0:=hi.1.2 ⟨hc.1,hc.2.1⟩
 exact⟨h1,by rw[hi.2 h1];exact hc.2.2.2.symm⟩
theorem ci_bey{c:Cl}{e:Int}(hq:0≤c.q∧c.q≤3)(he:0≤e∧e<3):ciK (bey c e).q e=ciK c.q e∧ciC (bey c e).x (bey c e).y (bey c e).q e=ciC c.x c.y c.q e:=by
 obtain⟨X,Y,Q⟩:=c
 simp only at hq
 rcases b3i hq with rfl|rfl|rfl|rfl<;>rcases b69 he with rfl|rfl|rfl<;>(simp[bey,ndx,ndy,ndq,tb,ciK,ciC,lqK,lqB];try omega)
theorem sl_eq{W H i e:Int}(hs:b0e W H=0)(h0:0≤i)(h:i<4*W*H)(he:0≤e∧e<3)(hn:b0g W H i e=0)(hm:b15 W H i e=i):
 slK W H i e=ciK (b02 W H i).q e∧slC W H i e=ciC (b02 W H i).x (b02 W H i).y (b02 W H i).q e:=by
 have hw:=c8a hs
 have hc:=b3y hs h0 h
 have e1:ndE W H i e=0:=by simp[ndE,hs,hn,hm,b1v]
 have ec:=b58 hs h0 h
 have e2:slE W H i e=0:=by
  simp only[slE,e1,K5,ndK]
  rw[ec]at hc
  simp only at hc
  unfold c87
  rw[Iw ⟨Ge,Dt⟩,Iw]
  unfold b08
  rw[Iw]
  have hq:=b3i hc.2.2.1
  rcases hq with q|q|q|q<;>rcases b69 he with rfl|rfl|rfl<;>(rw[q];simp[ciK,ciC,lqK,lqB,tb];omega)
 rw[ec]
 simp[slK,slC,e1,e2,keep]
theorem c6v{W H i e:Int}{has:List Int→Bool}{m:Mv}(hs:b0e W H=0)(h0:0≤i)(h:i<4*W*H)(he:0≤e∧e<3)(hn:b0g W H i e=0):
 b1c W H has m i e=bif has (b9h W H i e)then b6v (b5k (ciK (b02 W H i).q e) (ciC (b02 W H i).x (b02 W H i).y (b02 W H i).q e)) m else m:=by
 have hc:=b3y hs h0 h
 obtain⟨⟨n0,n1⟩,n2⟩:=b56 hs h0 h he hn
 obtain⟨b1,b2⟩:=d11 hs h0 h he hn
 have hb:=ci_bey hc.2.2.1 he
 have hE:b1v W H i e=e:=by simp[b1v,hn]
 have key:slK W H (b15 W H i e) e=ciK (b02 W H i).q e∧slC W H (b15 W H i e) e=ciC (b02 W H i).x (b02 W H i).y (b02 W H i).q e:=by
  by_cases hl:i≤b03 W H i e
  ·have hm:b15 W H i e=i:=by simp only[b15,hn,K5];omega
   rw[hm]
   exact sl_eq hs h0 h he hn hm
  ·have hm:b15 W H i e=b03 W H i e:=by simp only[b15,hn,K5];omega
   have ju:b15 W H (b03 W H i e) e=b03 W H i e:=by simp only[b15,b1,K5,b2];omega
   rw[hm]
   have:=sl_eq hs n0 n1 he b1 ju
   rw[n2]at this
   rw[this.1,this.2,hb.1,hb.2]
   exact C3
 unfold b1c
 rw[hE,key.1,key.2]
def c7w(m:Mv)(c:Cl)(K:Int):Prop:=(-K≤(cmv m c).x∧(cmv m c).x≤K)∧ -K≤(cmv m c).y∧(cmv m c).y≤K
theorem vC_in{W H:Int}{c:Cl}(hs:b0e W H=0)(hx:0≤c.x∧c.x<W)(hy:0≤c.y∧c.y<H)(hq:0≤c.q∧c.q≤3):vC c:=by
 have:=c8a hs
 unfold vC
 omega
theorem lin_le{t a b:Int}(ha: -700≤a∧a≤700)(hb: -700≤b∧b≤700):(-700≤(lin t a b).1∧(lin t a b).1≤700)∧ -700≤(lin t a b).2∧(lin t a b).2≤700:=by
 unfold lin
 repeat' split
 all_goals(simp only;omega)
theorem j0c{t a b:Int}(h:(a+b)%2=0):((lin t a b).1+(lin t a b).2)%2=0:=by
 unfold lin
 repeat' split
 all_goals(simp only;omega)
theorem g70{m:Mv}{c:Cl}{K:Int}(hm:vM m)(hc:(0≤c.x∧c.x≤300)∧(0≤c.y∧c.y≤300)∧0≤c.q∧c.q≤3)(hn:c7w m c K)(hK:0≤K∧K≤2000):(-2400≤m.x∧m.x≤2400)∧ -2400≤m.y∧m.y≤2400:=by
 unfold c7w at hn
 rw[b34 hm Dt]at hn
 simp only at hn
 rcases c44 hm with e|e|e|e|e|e|e|e<;>simp only[sq,e]at hn<;>simp at hn<;>omega
theorem d35{m:Mv}{c:Cl}{e K:Int}(he:0≤e∧e<3)(hc:(0≤c.x∧c.x≤300)∧(0≤c.y∧c.y≤300)∧0≤c.q∧c.q≤3)(hm:vM m)(hn:c7w m c K)(hK:0≤K∧K≤2000):
 vM (b6v (b5k (ciK c.q e) (ciC c.x c.y c.q e)) m)∧cmv (b6v (b5k (ciK c.q e) (ciC c.x c.y c.q e)) m) (bey c e)=cmv m c∧cmv (b6v (b5k (ciK c.q e) (ciC c.x c.y c.q e)) m) c=cmv m (bey c e):=by
 obtain⟨r1,r2,r3,r4⟩:=@f4b c e he Dt
 generalize b5k (ciK c.q e) (ciC c.x c.y c.q e)=r at*
 have hb:=b9q hc.2.2 he
 have Mq:=g70 hm hc hn hK
 have hl:=@d1t m.t r.x r.y (c44 hm)
 have Qg:=@lin_le m.t r.x r.y r4.1 r4.2
 have hlp:=@j0c m.t r.x r.y (j3t r1).2.2
 have c7:=(j3t hm).2.2
 have ht:thE r.t r.x r.y m.t m.x m.y=0:=by
  unfold thE
  rw[Iw ⟨r1.2,hm.2⟩,hl.1,hl.2]
  unfold lmE
  rw[Iw]
  unfold b1d
  rw[Iw]
  refine⟨?_,Dt,Dt,Dt,Dt,Dt⟩
  rw[cT_tt (c44 r1) (c44 hm)]
  rcases c44 r1 with e1|e1|e1|e1|e1|e1|e1|e1<;>rcases c44 hm with e2|e2|e2|e2|e2|e2|e2|e2<;>rw[e1,e2]<;>decide
 have v1:vC c:=Fv
 have v2:vC (bey c e):=Fv
 refine⟨(c4u r1.1 hm.1 ht).2.2.2,?_,?_⟩
 ·rw[d2a r1.1 hm.1 ht v2 (by rw[r3];exact v1),r3]
 ·rw[d2a r1.1 hm.1 ht v1 (by rw[r2];exact v2),r2]
theorem f2c{m:Mv}{c:Cl}{e K:Int}(he:0≤e∧e<3)(hc:(0≤c.x∧c.x≤300)∧(0≤c.y∧c.y≤300)∧0≤c.q∧c.q≤3)(hm:vM m)(hn:c7w m c K):c7w m (bey c e) (K+1):=by
 have hb:=b9q hc.2.2 he
 unfold c7w at*
 rw[b34 hm Dt]at hn⊢
 simp only at hn⊢
 rcases c44 hm with e|e|e|e|e|e|e|e<;>simp only[sq,e]at hn⊢ <;>simp at hn⊢ <;>omega
theorem b28{α:Type}{T:List α}{i j:Nat}{x d:α}(h:i<T.length):(T.set i x).getD j d=if j=i then x else T.getD j d:=by
 by_cases e:j=i
 ·subst e;simp[h]
 ·simp[Jb (Ne.symm e),e]
theorem b6p:∀l:List Bool,l.count true+l.count false=l.length
 | []=>rfl
 |a::r=>by
  have:=b6p r
  cases a<;>simp<;>omega
section
variable {W H : Int} {has : List Int → Bool}
def nOf(W H:Int):Nat:=(4*W*H).toNat
theorem b1b(hs:b0e W H=0):(nOf W H:Int)=4*W*H∧nOf W H≤1024∧4≤nOf W H:=by
 have h:=c8a hs
 have e:4*W*H=4*(W*H):=Int.mul_assoc _ _ _
 have:0<W*H:=Int.mul_pos Dt Dt
 unfold nOf
 omega
def okE(W H:Int)(has:List Int→Bool)(s:BS)(i e:Int):Prop:=
 b0g W H i e=0→s.kn.getD (b03 W H i e).toNat false=true∧s.out.getD (b03 W H i e).toNat mvR.d=b1c W H has (s.out.getD i.toNat mvR.d) i e
structure More (s s':BS):Prop where
 kn:∀j:Nat,s.kn.getD j false=true→s'.kn.getD j false=true∧s'.out.getD j mvR.d=s.out.getD j mvR.d
 wt:∀i∈s.wt,i∈s'.wt
 new:∀j:Nat,s'.kn.getD j false=true→s.kn.getD j false=true∨(j:Int)∈s'.wt
theorem More.refl(s:BS):More s s:=⟨fun _ h=>⟨h,rfl⟩,fun _ h=>h,fun _ h=>.inl h⟩
theorem More.trans{a b c:BS}(h:More a b)(k:More b c):More a c:=
 ⟨fun j hj=>⟨(k.kn j (h.kn j hj).1).1,(k.kn j (h.kn j hj).1).2.trans (h.kn j hj).2⟩,fun i hi=>k.wt i (h.wt i hi),fun j hj=>by
   rcases k.new j hj with h1|h1
   ·rcases h.new j h1 with h2|h2
    ·exact .inl h2
    ·exact .inr (k.wt _ h2)
   ·exact .inr h1⟩
theorem okE.more{s s':BS}{i e:Int}(_:0≤i)(hk:s.kn.getD i.toNat false=true)(h:okE W H has s i e)(m:More s s'):okE W H has s' i e:=by
 intro hn
 obtain⟨h1,h2⟩:=h hn
 have a:=m.kn _ h1
 have b:=m.kn _ hk
 exact⟨a.1,by rw[a.2,b.2,h2]⟩
structure BI (W H:Int) (s:BS):Prop where
 ol:s.out.length=nOf W H
 kl:s.kn.length=nOf W H
 wt:∀i∈s.wt,(0≤i∧i<4*W*H)∧s.kn.getD i.toNat false=true
 kn:∀j:Nat,s.kn.getD j false=true→vM (s.out.getD j mvR.d)∧c7w (s.out.getD j mvR.d) (b02 W H j) (s.kn.count true)
theorem BI.lt{s:BS}(h:BI W H s){j:Nat}(hj:s.kn.getD j false=true):j<nOf W H:=by
 rw[←h.kl]
 apply Classical.byContradiction
 intro hc
 rw[It,L0 Dt]at hj
 cases hj
theorem d76{m:Mv}{c:Cl}{K L:Int}(h:c7w m c K)(hl:K≤L):c7w m c L:=by unfold c7w at*;omega
theorem c5b{i:Int}(hs:b0e W H=0)(h0:0≤i)(h:i<4*W*H):(0≤(b02 W H i).x∧(b02 W H i).x≤300)∧(0≤(b02 W H i).y∧(b02 W H i).y≤300)∧0≤(b02 W H i).q∧(b02 W H i).q≤3:=by
 have:=b3y hs h0 h
 have:=c8a hs
 omega
theorem f31{s s':BS}{i e:Int}(hs:b0e W H=0)(h:BI W H s)(h0:0≤i)(hi:i<4*W*H)(hk:s.kn.getD i.toNat false=true)(he:0≤e∧e<3)(hh:c06 W H has s i e=some s'):
 BI W H s'∧More s s'∧okE W H has s' i e:=by
 unfold c06 at hh
 split at hh
 rotate_left
 ·rename_i hn
  cases hh
  exact⟨h,.refl _,fun e=>absurd e hn⟩
 rename_i hn
 obtain⟨⟨n0,n1⟩,n2⟩:=b56 hs h0 hi he hn
 have hN:=b1b hs
 have fq:(b03 W H i e).toNat<nOf W H:=Dt
 have d9:=c5b hs h0 hi
 simp only at hh
 by_cases kn:s.kn.getD (b03 W H i e).toNat false=true
 ·rw[kn]at hh
  simp only[Ls]at hh
  split at hh
  ·rename_i ho
   cases hh
   exact⟨h,.refl _,fun _=>⟨kn,ho⟩⟩
  ·cases hh
 ·have kf:s.kn.getD (b03 W H i e).toNat false=false:=by simpa using kn
  rw[kf]at hh
  simp only[cond_false]at hh
  rw[Iw (by rw[b28 Fw,Iw rfl])]at hh
  cases hh
  have c6:i.toNat≠(b03 W H i e).toNat:=fun e'=>by rw[e',kf]at hk;cases hk
  have zd:(s.kn.set (b03 W H i e).toNat true).count true=s.kn.count true+1:=by
   have c1:=d4w (l:=s.kn) (n:=(b03 W H i e).toNat) F1 kf
   have c2:=b6p s.kn
   have c3:=b6p (s.kn.set (b03 W H i e).toNat true)
   rw[Lj]at c3
   omega
  have hcN:s.kn.count true≤1024:=by
   have:=b6p s.kn
   have:=h.kl
   omega
  obtain⟨vm,nm⟩:=h.kn _ hk
  rw[show ((i.toNat:Nat):Int)=i from Dt]at nm
  have N4:=c6v (has:=has) (m:=s.out.getD i.toNat mvR.d) hs h0 hi he hn
  have ze:vM (b1c W H has (s.out.getD i.toNat mvR.d) i e)∧c7w (b1c W H has (s.out.getD i.toNat mvR.d) i e) (b02 W H (b03 W H i e)) (s.kn.count true+1):=by
   rw[n2]
   cases hc:has (b9h W H i e)with
   |false=>
    rw[N4,hc]
    exact⟨vm,f2c he d9 vm nm⟩
   |true=>
    rw[N4,hc]
    simp only[Ls]
    obtain⟨g1,g2,_⟩:=d35 he d9 vm nm Dt
    refine⟨g1,?_⟩
    unfold c7w at nm⊢
    rw[g2]
    omega
  refine⟨⟨by simpa using h.ol,by simpa using h.kl,fun j hj=> ?_,fun j hj=> ?_⟩,⟨fun j hj=> ?_,fun j hj=>List.mem_append_left _ hj,fun j hj=> ?_⟩,fun _=>⟨?_,?_⟩⟩
  ·rcases Jf.1 hj with hj|hj
   ·refine⟨(h.wt j hj).1,?_⟩
    rw[b28 F1]
    split
    ·rfl
    ·exact(h.wt j hj).2
   ·rw[Jk.1 hj]
    refine⟨⟨n0,n1⟩,?_⟩
    rw[b28 F1,Iw rfl]
  ·rw[b28 F1]at hj
   rw[b28 Fw,zd]
   by_cases ej:j=(b03 W H i e).toNat
   ·rw[Iw ej,show (j:Int)=b03 W H i e from Dt]
    exact⟨ze.1,d76 ze.2 Dt⟩
   ·rw[Iy ej]at hj⊢
    exact⟨(h.kn j hj).1,d76 (h.kn j hj).2 Dt⟩
  ·have ej:j≠(b03 W H i e).toNat:=fun e'=>by rw[e',kf]at hj;cases hj
   rw[b28 F1,Iy ej,b28 Fw,Iy ej]
   exact⟨hj,rfl⟩
  ·rw[b28 F1]at hj
   by_cases ej:j=(b03 W H i e).toNat
   ·exact .inr (List.mem_append_right _ (Jk.2 Dt))
   ·rw[Iy ej]at hj;exact .inl hj
  ·rw[b28 F1,Iw rfl]
  ·rw[b28 Fw,Iw rfl,b28 Fw,Iy c6]
theorem c9r{i:Int}(hs:b0e W H=0)(h0:0≤i)(hi:i<4*W*H):∀(l:List Int) {s s':BS},(∀e∈l,0≤e∧e<3)→BI W H s→s.kn.getD i.toNat false=true→c2s W H has i l s=some s'→
 BI W H s'∧More s s'∧∀e∈l,okE W H has s' i e
 | [],s,s',_,h,_,hh=>by
   cases hh
   exact⟨h,.refl _,fun _ he=>by cases he⟩
 |e::l,s,s',hl,h,hk,hh=>by
  simp only[c2s,J3]at hh
  obtain⟨s1,h1,h2⟩:=hh
  obtain⟨a1,a2,a3⟩:=f31 hs h h0 hi hk (hl e Dv) h1
  obtain⟨b1,b2,b3⟩:=c9r hs h0 hi l (fun e he=>hl e (by simp[he])) a1 (a2.kn _ hk).1 h2
  refine⟨b1,a2.trans b2,fun e' dw=> ?_⟩
  rcases J8.1 dw with rfl|dw
  ·exact a3.more h0 (a2.kn _ hk).1 b2
  ·exact b3 e' dw
def f9s(W H:Int)(has:List Int→Bool)(s:BS):Prop:=∀j:Nat,s.kn.getD j false=true→(j:Int)∈s.wt∨∀e,0≤e∧e<3→okE W H has s j e
theorem f1i(hs:b0e W H=0):∀(f:Nat) {s:BS} {l:List Mv},BI W H s→f9s W H has s→bfs W H has f s=some l→∃s',s'.out=l∧BI W H s'∧s'.wt=[]∧f9s W H has s'∧∀j:Nat,s.kn.getD j false=true→s'.kn.getD j false=true∧s'.out.getD j mvR.d=s.out.getD j mvR.d
 |0,s,l,h,hA,hh=>by
  unfold bfs at hh
  split at hh
  ·rename_i e;cases hh;exact⟨s,rfl,h,e,hA,fun _ h=>⟨h,rfl⟩⟩
  ·cases hh
 |f+1,s,l,h,hA,hh=>by
  cases hw:s.wt with
  |nil=>
   rw[f9p hw]at hh
   cases hh
   exact⟨s,rfl,h,hw,hA,fun _ h=>⟨h,rfl⟩⟩
  |cons i r=>
   rw[f2v hw]at hh
   simp only[J3]at hh
   obtain⟨s1,h1,h2⟩:=hh
   have hi:=h.wt i (by rw[hw];simp)
   have hb:BI W H ⟨s.out,s.kn,r⟩:=⟨h.ol,h.kl,fun j hj=>h.wt j (by rw[hw];exact Ju _ hj),h.kn⟩
   obtain⟨a1,a2,a3⟩:=c9r hs hi.1.1 hi.1.2 [0,1,2] Dv hb hi.2 h1
   have hA1:f9s W H has s1:=by
    intro j hj
    by_cases ej:(j:Int)=i
    ·right
     rw[ej]
     intro e he
     rcases b69 he with rfl|rfl|rfl
     ·exact a3 0 Dv
     ·exact a3 1 Dv
     ·exact a3 2 Dv
    ·rcases a2.new j hj with bh|bh
     ·rcases hA j bh with h3|h3
      ·rw[hw]at h3
       rcases J8.1 h3 with h3|h3
       ·exact absurd h3 ej
       ·exact .inl (a2.wt _ h3)
      ·right
       intro e he
       have:=h3 e he
       exact okE.more (s:=⟨s.out,s.kn,r⟩) Dt F0 this a2
     ·exact .inl bh
   obtain⟨s',c1,c2,c3,c4,c5⟩:=f1i hs f a1 hA1 h2
   exact⟨s',c1,c2,c3,c4,fun j hj=>⟨(c5 j (a2.kn j hj).1).1,(c5 j (a2.kn j hj).1).2.trans (a2.kn j hj).2⟩⟩
theorem g1h{s:BS}(hs:b0e W H=0)(_:BI W H s)(hw:s.wt=[])(hA:f9s W H has s)(h0:s.kn.getD 0 false=true):∀j:Nat,j<nOf W H→s.kn.getD j false=true:=by
 have hN:=b1b hs
 have step:∀(i:Nat) (e:Int),0≤e∧e<3→s.kn.getD i false=true→b0g W H i e=0→s.kn.getD (b03 W H i e).toNat false=true:=by
  intro i e he hk hn
  rcases hA i hk with h1|h1
  ·rw[hw]at h1;cases h1
  ·exact(h1 e he hn).1
 have f6i:∀(j:Nat) (e:Int),j<nOf W H→0≤e∧e<3→b0g W H j e=0→s.kn.getD (b03 W H j e).toNat false=true→s.kn.getD j false=true:=by
  intro j e hj he hn hk
  obtain⟨⟨n0,n1⟩,_⟩:=b56 hs (i:=j) Dt Dt he hn
  obtain⟨b1,b2⟩:=d11 hs (i:=j) Dt Dt he hn
  have:=step (b03 W H j e).toNat e he hk (by rw[show (((b03 W H j e).toNat:Nat):Int)=b03 W H j e from Dt];exact b1)
  rw[show (((b03 W H j e).toNat:Nat):Int)=b03 W H j e from Dt,b2]at this
  simpa using this
 have main:∀m:Nat,4*m<nOf W H→∀q:Nat,q<4→s.kn.getD (4*m+q) false=true:=by
  intro m
  induction m using Nat.strongRecOn with
  |ind m ih=>
   intro hm
   have hw2:=c8a hs
   have cin:∀q:Nat,q<4→(4*m+q:Nat)<nOf W H:=fun q hq=>by
    have:4∣nOf W H:=by
     unfold nOf
     rw[Int.mul_assoc]
     have:0<W*H:=Int.mul_pos Dt Dt
     exact⟨(W*H).toNat,Dt⟩
    obtain⟨k,hk⟩:=this
    omega
   have cel:∀q:Nat,q<4→b02 W H ((4*m+q:Nat):Int)=⟨(m:Int)%W,(m:Int)/W,q⟩:=fun q hq=>by
    have:=cin q hq
    rw[b58 hs Dt Dt]
    have e1:((4*m+q:Nat):Int)/4=m:=Dt
    have e2:((4*m+q:Nat):Int)%4=q:=Dt
    rw[e1,e2]
   have a1:=Int.emod_nonneg (m:Int) (show W≠0 from Dt)
   have a2:=Int.emod_lt_of_pos (m:Int) (show 0<W from Dt)
   have a3:0≤(m:Int)/W:=Int.ediv_nonneg Dt Dt
   have a5:=Int.mul_ediv_add_emod (m:Int) W
   have a6:(m:Int)/W*W=W*((m:Int)/W):=Int.mul_comm _ _
   have i0:=b3y hs (i:=((4*m:Nat):Int)) Dt Dt
   have c0:=cel 0 Dt
   rw[Kz]at c0
   rw[c0]at i0
   simp only at i0
   have one:∃q:Nat,q<4∧s.kn.getD (4*m+q) false=true:=by
    by_cases Q3:m=0
    ·subst Q3;exact⟨0,Dt,h0⟩
    by_cases hx:0<(m:Int)%W
    ·refine⟨3,Dt,?_⟩
     have fin:b0g W H ((4*m+3:Nat):Int) 0=0∧(b03 W H ((4*m+3:Nat):Int) 0).toNat=4*(m-1)+1:=by
      have hn:=d53 hs (i:=((4*m+3:Nat):Int)) (e:=0) Dt (by have:=cin 3 Dt;omega) Dt
      rw[cel 3 Dt]at hn
      generalize b03 W H ((4*m+3:Nat):Int) 0=v at*
      generalize b0g W H ((4*m+3:Nat):Int) 0=er at*
      simp[bey,ndx,ndy,ndq,tb]at hn
      have e1:=hn.1.2 Dt
      exact⟨e1,by rw[hn.2 e1];omega⟩
     refine f6i (4*m+3) 0 (cin 3 Dt) Dt fin.1 ?_
     rw[fin.2]
     exact ih (m-1) Dt Dt 1 Dt
    ·refine⟨0,Dt,?_⟩
     have hy:0<(m:Int)/W:=by
      rcases Int.lt_or_le 0 ((m:Int)/W)with h|h
      ·exact h
      ·have:(m:Int)/W=0:=Dt
       rw[this]at a5
       omega
     have hWm:W≤m:=by
      have:W*1≤W*((m:Int)/W):=Int.mul_le_mul_of_nonneg_left Dt Dt
      omega
     have e2:(-1+(m:Int)/W)*W=(m:Int)/W*W-W:=by rw[Int.add_mul];omega
     have fin:b0g W H ((4*m:Nat):Int) 0=0∧(b03 W H ((4*m:Nat):Int) 0).toNat=4*(m-W.toNat)+2:=by
      have hn:=d53 hs (i:=((4*m:Nat):Int)) (e:=0) Dt Dt Dt
      rw[c0]at hn
      generalize b03 W H ((4*m:Nat):Int) 0=v at*
      generalize b0g W H ((4*m:Nat):Int) 0=er at*
      simp[bey,ndx,ndy,ndq,tb]at hn
      have e1:=hn.1.2 Dt
      exact⟨e1,by rw[hn.2 e1,e2];omega⟩
     refine f6i (4*m) 0 Dt Dt fin.1 ?_
     rw[fin.2]
     exact ih (m-W.toNat) Dt Dt 2 Dt
   have nx:∀q:Nat,q<4→s.kn.getD (4*m+q) false=true→s.kn.getD (4*m+(q+1)%4) false=true:=by
    intro q hq hk
    have go:∀e:Int,0≤e∧e<3→(bey ⟨(m:Int)%W,(m:Int)/W,q⟩ e=⟨(m:Int)%W,(m:Int)/W,((q+1)%4:Nat)⟩)→s.kn.getD (4*m+(q+1)%4) false=true:=by
     intro e he hb
     have hn:=d53 hs (i:=((4*m+q:Nat):Int)) (e:=e) Dt (by have:=cin q hq;omega) he
     rw[cel q hq,hb]at hn
     simp only at hn
     have e1:b0g W H ((4*m+q:Nat):Int) e=0:=hn.1.2 Dt
     have:=step (4*m+q) e he hk e1
     rw[hn.2 e1]at this
     rwa[show (4*((m:Int)/W*W+(m:Int)%W)+(((q+1)%4:Nat):Int)).toNat=4*m+(q+1)%4 from Dt]at this
    rcases(show q=0∨q=1∨q=2∨q=3 from Dt)with rfl|rfl|rfl|rfl
    ·exact go 1 Dt Gf
    ·exact go 2 Dt Gf
    ·exact go 1 Dt Gf
    ·exact go 2 Dt Gf
   obtain⟨q,hq,hk⟩:=one
   have k1:=nx q hq hk
   have k2:=nx _ Dt k1
   have k3:=nx _ Dt k2
   intro q' dc
   rcases(show q'=q∨q'=(q+1)%4∨q'=((q+1)%4+1)%4∨q'=(((q+1)%4+1)%4+1)%4 from Dt)with e|e|e|e<;>(rw[e];assumption)
 intro j hj
 have:=main (j/4) Dt (j%4) Dt
 rwa[show 4*(j/4)+j%4=j from Dt]at this
end
theorem f8d{p:Pt}(hs:b0e p.W p.H=0)(h:b4e p=0):(b1y p).length=nOf p.W p.H∧∀i:Nat,i<nOf p.W p.H→
 (vM ((b1y p).getD i mvR.d)∧c7w ((b1y p).getD i mvR.d) (b02 p.W p.H i) 1024)∧∀e:Int,0≤e∧e<3→b0g p.W p.H i e=0→(b1y p).getD (b03 p.W p.H i e).toNat mvR.d=b1c p.W p.H (b2m p.l) ((b1y p).getD i mvR.d) i e:=by
 have hN:=b1b hs
 have hc:b17 p=nOf p.W p.H:=rfl
 unfold b4e at h
 cases hr:f5a p with
 |none=>rw[hr]at h;cases h
 |some l=>
  have e1:b1y p=l:=by simp[b1y,hr]
  rw[e1]
  unfold f5a at hr
  rw[hc]at hr
  have h0:BI p.W p.H (bs0 (nOf p.W p.H)):=by
   refine⟨by simp[bs0],by simp[bs0],fun i hi=> ?_,fun j hj=> ?_⟩
   ·have:i=0:=by simpa[bs0]using hi
    subst this
    refine⟨Dt,?_⟩
    show ((List.replicate _ false).set 0 true).getD 0 false=true
    rw[c5d _ _ Dt]
    rfl
   ·have bh:((List.replicate (nOf p.W p.H) false).set 0 true).getD j false=true:=hj
    rw[c5d _ _ Dt]at bh
    have:j=0:=K2 bh
    subst this
    have zd:1≤(bs0 (nOf p.W p.H)).kn.count true:=by
     have:true∈(bs0 (nOf p.W p.H)).kn:=by
      show true∈(List.replicate (nOf p.W p.H) false).set 0 true
      exact List.mem_set E5 _
     exact List.count_pos_iff.2 this
    show vM ((List.replicate _ mvR.d).getD 0 mvR.d)∧c7w ((List.replicate _ mvR.d).getD 0 mvR.d) _ _
    rw[d6y]
    have v0:vM mvR.d:=⟨Dy,Dy⟩
    refine⟨v0,?_⟩
    have Pv:=b3y hs (i:=((0:Nat):Int)) Dt Dt
    have hw:=c8a hs
    unfold c7w
    rw[b34 v0 Dt]
    have e0:b02 p.W p.H ((0:Nat):Int)=⟨0,0,0⟩:=by
     rw[b58 hs Dt Dt]
     simp
    rw[e0]
    have d0:mvR.d=⟨0,0,0⟩:=rfl
    rw[d0]
    simp[sq]
    try omega
  have hA:f9s p.W p.H (b2m p.l) (bs0 (nOf p.W p.H)):=by
   intro j hj
   have bh:((List.replicate (nOf p.W p.H) false).set 0 true).getD j false=true:=hj
   rw[c5d _ _ Dt]at bh
   have:j=0:=K2 bh
   subst this
   exact .inl (by simp[bs0])
  obtain⟨s',c1,c2,c3,c4,c5⟩:=f1i hs _ h0 hA hr
  have k0:s'.kn.getD 0 false=true:=(c5 0 (by
   show ((List.replicate _ false).set 0 true).getD 0 false=true
   rw[c5d _ _ Dt]
   rfl)).1
  have kall:=g1h hs c2 c3 c4 k0
  rw[←c1]
  refine⟨c2.ol,fun i hi=>⟨⟨(c2.kn i (kall i hi)).1,d76 (c2.kn i (kall i hi)).2 ?_⟩,fun e he hn=> ?_⟩⟩
  ·have:=b6p s'.kn
   have:=c2.kl
   omega
  ·rcases c4 i (kall i hi)with h1|h1
   ·rw[c3]at h1;cases h1
   ·have:=(h1 e he hn).2
    simpa using this
def g86:List SV→Option (Prop×Pt×Mv)
 | [x,.agg [.int .u8 t,.int .i64 a,.int .i64 b]]=>(c88 x).map fun q=>((q.1∧∀c∈q.2.l,inK .u8 c.e)∧0≤t∧t≤255,q.2,⟨t,a,b⟩)
 |_=>none
def b5n(p:Pt)(r:Mv):Prop:=(p.l.length≤100000∧∀c∈p.l,inK .u8 c.e)∧0≤r.t∧r.t≤255
theorem d68{l:List SV}{q:Prop}{p:Pt}{r:Mv}(h:g86 l=some (q,p,r))(hq:q):b2h l [b6i p,g2n r]∧b5n p r:=by
 unfold g86 at h
 split at h
 ·simp only[Ia]at h
  obtain⟨⟨a,p'⟩,hx,rfl,rfl,rfl⟩:=h
  obtain⟨h1,h2⟩:=b44 hx hq.1.1
  exact⟨⟨h1,H6,Ix⟩,⟨h2,hq.1.2⟩,hq.2⟩
 ·cases h
theorem j4r{k:Kon}{res:Pt→Mv→SV}(hk:∀l,k l=(g86 l).map fun q=>(q.1,res q.2.1 q.2.2)):Law ⟨Pt×Mv,fun(p,r)=>[b6i p,g2n r],fun(p,r)=>b5n p r,fun(p,r)=>res p r⟩ k:=by
 intro args pre s h hp
 rw[hk]at h
 simp only[Ia]at h
 obtain⟨⟨q,p,r⟩,hx,rfl,rfl⟩:=h
 obtain⟨h1,h2⟩:=d68 hx hp
 exact⟨(p,r),h1,h2,rfl⟩
abbrev f7q:FuncId:=104
def f78(p:Pt)(r:Mv):SV:=.tup [.sl 3 (b0b p r).length (mvR.row (b0b p r)) none,.int .i64 (b0w p r)]
def d6v:Kon:=fun l=>(g86 l).map fun q=>(q.1,f78 q.2.1 q.2.2)
def j18:Fam:=⟨Pt×Mv,fun(p,r)=>[b6i p,g2n r],fun(p,r)=>b5n p r,fun(p,r)=>f78 p r⟩
theorem j2q:PS f7q d6v:=by
 refine con [(g2v,f3i)] (by simpa using j4a) j18 (fun _ _=>none) d6v (j4r (fun _=>rfl)) ?_ Go.Proofs.Tryz.func104 Du Du Du ?_
 ·exact Bv
 ·rintro⟨p,r⟩ hp
  replace hp:b5n p r:=hp
  refine wlk _ ?_;(repeat' first|constructor|refine Iu fun hu=> ?_|intro h);all_goals refine Lm ?_
  all_goals(try simp only[b00]at*)
  all_goals(first
   |exact B3
   |skip)
abbrev c2w:FuncId:=25
def g17(p:Pt)(r:Mv):SV:=.tup [.sl 3 (b01 p r).length (clR.row (b01 p r)) none,.int .i64 (b0w p r)]
def b9y:Kon:=fun l=>(g86 l).map fun q=>(q.1,g17 q.2.1 q.2.2)
def j4c:Fam:=⟨Pt×Mv,fun(p,r)=>[b6i p,g2n r],fun(p,r)=>b5n p r,fun(p,r)=>g17 p r⟩
theorem c7g:PS c2w b9y:=by
 refine con [(g2v,f3i)] (by simpa using j4a) j4c (fun _ _=>none) b9y (j4r (fun _=>rfl)) ?_ Go.Proofs.Tryz.func25 Du Du Du ?_
 ·exact Bv
 ·rintro⟨p,r⟩ hp
  replace hp:b5n p r:=hp
  refine wlk _ ?_;(repeat' first|constructor|refine Iu fun hu=> ?_|intro h);all_goals refine Lm ?_
  all_goals(try simp only[b00]at*)
  all_goals(first
   |exact B3
   |skip)
def isUp(m:Mv):Bool:= !(and (decide (b1d m.t m.x m.y=0)) (decide (4≤m.t)))
def upL(p:Pt)(r:Mv):List Bool:=(b0b p r).map isUp
theorem d4t{p:Pt}{r:Mv}(hr:0≤r.t):∀m∈b0b p r,0≤m.t∧m.t≤255:=by
 intro m hm
 unfold b0b at hm
 split at hm
 ·obtain⟨m0,h0,rfl⟩:=Ja.1 hm
  exact f0k ((d1g p).2.1 m0 h0).1 hr
 ·simp at hm
theorem d80{p:Pt}{r:Mv}:(b0b p r).length≤1024:=by
 unfold b0b
 split
 ·rename_i h
  have hs:b0m p=0:=by
   unfold b0w at h
   split at h
   ·assumption
   ·rename_i h';exact absurd h h'
  have:=(d1g p).2.2
  have:=c0y (b0r hs).1
  simp only[Js]
  omega
 ·simp
abbrev nUp:FuncId:=58
def rUp(p:Pt)(r:Mv):SV:=.tup [.sl 1 (upL p r).length (b1x.row (upL p r)) none,.int .i64 (b0w p r)]
def kUp:Kon:=fun l=>(g86 l).map fun q=>(q.1,rUp q.2.1 q.2.2)
def FUp:Fam:=⟨Pt×Mv,fun(p,r)=>[b6i p,g2n r],fun(p,r)=>b5n p r,fun(p,r)=>rUp p r⟩
def IUp:Pt×Mv→Nat→Option Inv
 |(p,r),6=>some {β:=Nat,ok:=fun i=>i≤(b0b p r).length,st:=fun i=>⟨[⟨27,none,.int .i64 i⟩,⟨26,none,.int .i64 (b0b p r).length⟩,⟨25,none,.sl 3 (b0b p r).length (mvR.row (b0b p r)) none⟩,⟨9,none,.osl 2⟩,⟨5,none,.int .i64 0⟩],
    [.cells 26 [.int .i64 p.W,.int .i64 p.H,.sl 3 p.l.length (b20 p.l) none],.cells 28 [.int .u8 r.t,.int .i64 r.x,.int .i64 r.y],.row 4 1 (b0b p r).length (fun j=>b1x.sv (upto (fun j=>isUp ((b0b p r).getD j mvR.d)) (fun _=>false) i j)) none]⟩,μ:=fun i=>(b0b p r).length-i}
 |_,_=>none
theorem pUp:PS nUp kUp:=by
 refine con [(g2v,f3i),(g8z,d9x)] (by simpa using⟨j4a,pFlips⟩) FUp IUp kUp (j4r (fun _=>rfl)) ?_ Go.Proofs.Tryz.func58 Du Du Du ?_
 ·exact Bv
 ·rintro⟨p,r⟩ hp
  replace hp:b5n p r:=hp
  have hl:=@d80 p r
  have jt:(b0b ⟨p.W,p.H,p.l⟩ ⟨r.t,r.x,r.y⟩).length≤1024:=hl
  have bb:b0w p r≠0→b0b p r=[]:=fun h=>(c0m h).1
  have gv:(upL p r).length=(b0b p r).length:=by simp[upL]
  have hug:∀j,j<(b0b p r).length→(upL p r).getD j b1x.d=isUp ((b0b p r).getD j mvR.d):=fun j hj=>by simp[upL,hj]
  refine wlk _ ?_;(repeat' first|constructor|refine Iu fun hu=> ?_|intro h);all_goals refine Lm ?_
  all_goals(try simp only[b00]at*)
  all_goals(first
   |exact B3
   |(refine⟨Dt,Dt,c34 Du Dt Dt,Dt⟩)
   |(rw[gv,bb (by simpa using ‹(!decide (b0w _ _=0))=true›)];rfl)
   |skip)
  refine⟨(0:Nat),J5 _,?_,?_⟩
  ·refine wlk _ ?_;(repeat' first|constructor|refine Iu fun hu=> ?_|intro h);all_goals refine Lm ?_
   all_goals(first
    |exact A5
    |(intro j hj;show _=b1x.sv (upto _ _ 0 j);rw[c1s];rfl)
    |skip)
  ·intro i hi
   replace hi:i≤(b0b p r).length:=hi
   have hm:i<(b0b p r).length→0≤((b0b p r).getD i mvR.d).t∧((b0b p r).getD i mvR.d).t≤255:=fun h=>by
    rw[It,Iv h]
    exact d4t hp.2.1 _ (Jn h)
   refine wlk _ ?_;(repeat' first|constructor|refine Iu fun hu=> ?_|intro h);all_goals refine Lm ?_
   all_goals(try simp only[I8,c7u _ _ (J2 i),I9]at*)
   all_goals(first
    |omega
    |exact hm Dt
    |exact A4
    |(show i<(b0b p r).length;omega)
    |(refine⟨i+1,Ed,E6,?_⟩)
    |(have e:b0w p r=0:=by assumption
      exact e.symm)
    |exact gv.symm
    |(intro j hj;show b1x.sv _=b1x.sv _;rw[b9z _ _ Dt,hug j Dt])
    |skip)
   all_goals refine wlk _ ?_;(repeat' first|constructor|refine Iu fun hu=> ?_|intro h);all_goals refine Lm ?_
   all_goals(try simp only[])
   all_goals(first
    |exact Aj
    |(intro j hj;exact b6h b1x (fun _ _=>rfl) (fun _ _=>rfl) (fun j=>isUp ((b0b p r).getD j mvR.d)) _ i j)
    |skip)
theorem d9z{p:Pt}{i e:Int}(h:b0m p=0)(hn:b0g p.W p.H i e=0):b2m p.l (b9h p.W p.H i e)=true↔kdV p i e≠0:=by
 obtain⟨hs,hk,h1,h2⟩:=b0r h
 have hm:=d0a h
 have e1:atE p i e=0:=by simp[atE,h,hn]
 have e2:atB p i e=f3q p.l (b15 p.W p.H i e) (b1v p.W p.H i e):=by simp[atB,e1]
 unfold kdV b9h
 rw[e2]
 generalize b15 p.W p.H i e=a
 generalize b1v p.W p.H i e=b
 constructor
 ·intro hc
  obtain⟨x,hx,t9⟩:=Jc.1 hc
  obtain⟨j,hj,rfl⟩:=Jg.1 hx
  have hq:a=p.l[j].c∧b=p.l[j].e:=by simpa[f7m]using t9
  have hg:p.l.getD j d0=p.l[j]:=by simp[hj]
  have o0:d2t (p.l.getD j d0) a b=0:=by
   rw[hg]
   unfold d2t
   try unfold d0d
   rw[hq.1,hq.2]
   simp
  have hl:lbF p.l a b=j:=f9g p.l j Dt (fun k cm=>by
   have:=hm k j cm hj
   rw[hg,←hq.1,←hq.2]at this
   exact this) (fun _=>Dt)
  have hf:f3q p.l a b=true:=by
   unfold f3q
   rw[hl]
   rw[hg]at o0
   simp[hj,o0]
  rw[hf,hl]
  simp only[Ls]
  have:=Ji.1 hk p.l[j] (Jn hj)
  rw[hg]
  intro h0
  simp[g2e,isKB,h0]at this
 ·intro hv
  cases hf:f3q p.l a b with
  |false=>rw[hf]at hv;exact absurd rfl hv
  |true=>
   unfold f3q at hf
   simp only[Ih]at hf
   have hj:lbF p.l a b<p.l.length:=Dt
   have hg:p.l.getD (lbF p.l a b) d0=p.l[lbF p.l a b]:=by simp[hj]
   refine Jc.2 ⟨p.l[lbF p.l a b],Jn hj,?_⟩
   have o:=hf.2
   rw[hg]at o
   have:a=p.l[lbF p.l a b].c∧b=p.l[lbF p.l a b].e:=by
    unfold d2t at o
    try unfold d0d at o
    split at o<;>omega
   simp[f7m,←this.1,←this.2]
structure PlOK (p:Pt) (r:Mv):Prop where
 pl:(b0b p r).length=nOf p.W p.H
 il:(b01 p r).length=nOf p.W p.H
 vm:∀i:Nat,i<nOf p.W p.H→vM ((b0b p r).getD i mvR.d)
 im:∀i:Nat,i<nOf p.W p.H→(b01 p r).getD i clR.d=cmv ((b0b p r).getD i mvR.d) (b02 p.W p.H i)∧vC ((b01 p r).getD i clR.d)
 pass:∀(i:Nat) (e:Int),i<nOf p.W p.H→0≤e∧e<3→b0g p.W p.H i e=0→kdV p i e=0→(b0b p r).getD (b03 p.W p.H i e).toNat mvR.d=(b0b p r).getD i mvR.d
 loop:∀(i:Nat) (e:Int),i<nOf p.W p.H→0≤e∧e<3→b0g p.W p.H i e=0→kdV p i e≠0→
  (b01 p r).getD (b03 p.W p.H i e).toNat clR.d=(b01 p r).getD i clR.d∧cmv ((b0b p r).getD (b03 p.W p.H i e).toNat mvR.d) (b02 p.W p.H i)=cmv ((b0b p r).getD i mvR.d) (b02 p.W p.H (b03 p.W p.H i e))
theorem b54{p:Pt}{r:Mv}(h:b0w p r=0):b0m p=0∧b1d r.t r.x r.y=0∧b4e p=0∧∀i,i<(b1y p).length→boE p r i=0:=by
 unfold b0w at h
 split at h
 ·rename_i h1
  split at h
  ·rename_i h2
   split at h
   ·rename_i h3
    exact⟨h1,h2,h3,fun i hi=>c5j h i Dt Dt⟩
   ·rename_i h3;exact absurd h h3
  ·cases h
 ·rename_i h1;exact absurd h h1
theorem j35{m:Mv}{c:Cl}{K:Int}(hm:vM m)(hc:(-4200≤c.x∧c.x≤4200)∧(-4200≤c.y∧c.y≤4200)∧0≤c.q∧c.q≤3)(hn:c7w m c K)(hK:K≤4096):vC (cmv m c):=by
 unfold c7w at hn
 refine⟨Dt,Dt,?_⟩
 rw[b34 hm hc]
 exact tq_le (c44 hm) hc.2.2
theorem b6u{p:Pt}{r:Mv}(hr:0≤r.t)(h:b0w p r=0):PlOK p r:=by
 obtain⟨hp,hm,P8,hb⟩:=b54 h
 have hs:=(b0r hp).1
 have hN:=b1b hs
 obtain⟨rl,rel⟩:=f8d hs P8
 obtain⟨pl,pr⟩:=b50 h
 obtain⟨il,ir⟩:=b7g h
 rw[rl]at pl pr il ir
 have vr:vM r:=⟨hr,hm⟩
 have each:∀i:Nat,i<nOf p.W p.H→thE ((b1y p).getD i mvR.d).t ((b1y p).getD i mvR.d).x ((b1y p).getD i mvR.d).y r.t r.x r.y=0∧imE p.W p.H (b6v ((b1y p).getD i mvR.d) r) i=0:=by
  intro i hi
  have:=hb i Dt
  unfold boE at this
  split at this
  ·rename_i h1;exact⟨h1,this⟩
  ·rename_i h1;exact absurd this h1
 have comp:∀(i:Nat) (c:Cl) (K:Int),i<nOf p.W p.H→(0≤c.x∧c.x≤300)∧(0≤c.y∧c.y≤300)∧0≤c.q∧c.q≤3→c7w ((b1y p).getD i mvR.d) c K→K≤4096→cmv (b6v ((b1y p).getD i mvR.d) r) c=cmv r (cmv ((b1y p).getD i mvR.d) c):=by
  intro i c K hi hc hn hK
  obtain⟨⟨v1,_⟩,_⟩:=rel i hi
  exact d2a v1.1 hr (each i hi).1 Fv (j35 v1 Dt hn hK)
 have wide:∀i:Int,0≤i→i<4*p.W*p.H→(0≤(b02 p.W p.H i).x∧(b02 p.W p.H i).x≤300)∧(0≤(b02 p.W p.H i).y∧(b02 p.W p.H i).y≤300)∧0≤(b02 p.W p.H i).q∧(b02 p.W p.H i).q≤3:=fun i h0 h1=>c5b hs h0 h1
 have img:∀i:Nat,i<nOf p.W p.H→(b01 p r).getD i clR.d=cmv ((b0b p r).getD i mvR.d) (b02 p.W p.H i)∧vC ((b01 p r).getD i clR.d):=by
  intro i hi
  rw[ir i hi,pr i hi]
  have h2:=(each i hi).2
  have e1:boI p r i=cmv (boP p r i) (b02 p.W p.H i):=by
   unfold boI imC boP cmv b02
   simp only[h2,keep,K5]
  refine⟨e1,?_⟩
  rw[e1]
  have v2:vM (boP p r i):=(c4u (rel i hi).1.1.1 hr (each i hi).1).2.2.2
  unfold imE cmE at h2
  have hw:=wide i Dt Dt
  split at h2
  ·split at h2
   ·rename_i h3
    have h4:b0q (cmv (boP p r i) (b02 p.W p.H i)).x (cmv (boP p r i) (b02 p.W p.H i)).y (cmv (boP p r i) (b02 p.W p.H i)).q=0:=h3
    unfold b0q at h4
    split at h4
    ·rename_i h5
     refine⟨Dt,Dt,?_⟩
     rw[b34 v2 Dt]
     exact tq_le (c44 v2) hw.2.2
    ·cases h4
   ·cases h2
  ·cases h2
 refine⟨pl,il,fun i hi=> ?_,img,fun i e hi he hn hk=> ?_,fun i e hi he hn hk=> ?_⟩
 ·rw[pr i hi]
  exact(c4u (rel i hi).1.1.1 hr (each i hi).1).2.2.2
 ·obtain⟨⟨n0,n1⟩,n2⟩:=b56 hs (i:=i) Dt Dt he hn
  have hc:b2m p.l (b9h p.W p.H i e)=false:=by
   cases hc:b2m p.l (b9h p.W p.H i e)with
   |false=>rfl
   |true=>exact absurd hk ((d9z hp hn).1 hc)
  have:=(rel i hi).2 e he hn
  rw[c6v hs Dt Dt he hn,hc]at this
  rw[pr _ Dt,pr i hi]
  unfold boP
  rw[this]
  rfl
 ·obtain⟨⟨n0,n1⟩,n2⟩:=b56 hs (i:=i) Dt Dt he hn
  have hc:=(d9z hp hn).2 hk
  have hx:=(rel i hi).2 e he hn
  rw[c6v hs Dt Dt he hn,hc]at hx
  simp only[Ls]at hx
  obtain⟨⟨v1,nr1⟩,_⟩:=rel i hi
  have vq:(b03 p.W p.H i e).toNat<nOf p.W p.H:=Dt
  obtain⟨⟨v2,nr2⟩,_⟩:=rel _ vq
  obtain⟨g1,g2,g3⟩:=d35 he (wide i Dt Dt) v1 nr1 Dt
  rw[←hx]at g1 g2 g3
  have b1:=f2c he (wide i Dt Dt) v1 nr1
  have hcast:(((b03 p.W p.H i e).toNat:Nat):Int)=b03 p.W p.H i e:=Dt
  have q1:c7w ((b1y p).getD (b03 p.W p.H i e).toNat mvR.d) (b02 p.W p.H i) 1025:=by
   unfold c7w at b1⊢
   rw[g3]
   exact b1
  have q2:cmv ((b1y p).getD (b03 p.W p.H i e).toNat mvR.d) (b02 p.W p.H (b03 p.W p.H i e))=cmv ((b1y p).getD i mvR.d) (b02 p.W p.H i):=by rw[n2];exact g2
  have q3:c7w ((b1y p).getD (b03 p.W p.H i e).toNat mvR.d) (b02 p.W p.H (b03 p.W p.H i e)) 1024:=by
   unfold c7w at nr1⊢
   rw[q2]
   exact nr1
  refine⟨?_,?_⟩
  ·rw[(img _ vq).1,(img i hi).1,hcast,pr _ vq,pr i hi]
   unfold boP
   rw[comp _ _ 1024 vq (wide _ n0 n1) q3 Dt,q2,comp i _ 1024 hi (wide i Dt Dt) nr1 Dt]
  ·rw[pr _ vq,pr i hi]
   unfold boP
   rw[comp _ _ 1025 vq (wide i Dt Dt) q1 Dt,g3,comp i _ 1025 hi (wide _ n0 n1) (by rw[n2];exact b1) Dt,n2]
def f5b(P:Int→Bool)(l:List Int):Int:=match l.findIdx? P with
 |some i=>i
 |none=> -1
theorem d1m{P:Int→Bool}{l:List Int}{i:Nat}(hi:i<l.length)(h:∀j,j<i→P (l.getD j 0)=false)(hv:P (l.getD i 0)=true):f5b P l=i:=by
 have:l.findIdx? P=some i:=by
  rw[K0]
  refine⟨hi,?_,fun j hj=> ?_⟩
  ·simpa[It,hi]using hv
  ·have:=h j hj
   have bh:j<l.length:=Dt
   simpa[It,bh]using this
 simp[f5b,this]
theorem g00{P:Int→Bool}{l:List Int}(h:∀j,j<l.length→P (l.getD j 0)=false):f5b P l= -1:=by
 have:l.findIdx? P=none:=by
  rw[Kh]
  intro x hx
  obtain⟨j,hj,rfl⟩:=Jg.1 hx
  have:=h j hj
  simpa[It,hj]using this
 simp[f5b,this]
theorem d24(P:Int→Bool)(l:List Int):decide (0≤f5b P l)=l.any P:=by
 unfold f5b
 cases h:l.findIdx? P with
 |none=>
  have:=Kh.1 h
  have:l.any P=false:=by
   rw[Ji]
   intro x hx
   simpa using this x hx
  rw[this];rfl
 |some i=>
  have:=K0.1 h
  obtain⟨hi,hp,_⟩:=this
  have:l.any P=true:=Jc.2 ⟨_,Jn hi,hp⟩
  rw[this]
  simp
def capN:SV→Option (Prop×Int)
 |.rel 1 1 f 0 0=>match f 0 with
  | [.int .i64 n]=>some (f=(fun _=>[.int .i64 n]),n)
  |_=>none
 |_=>none
def f4n(n:Int):SV:=.rel 1 1 (fun _=>[.int .i64 n]) 0 0
theorem d66{s:SV}{q:Prop}{n:Int}(h:capN s=some (q,n))(hq:q):s=f4n n:=by
 unfold capN at h
 split at h
 ·split at h
  ·cases h
   rw[hq]
   rfl
  ·cases h
 ·cases h
def g2m(n v:Int):Bool:=decide (v<0)||decide (v≥n)
abbrev c0n:FuncId:=210
def d10:Kon
 | [.int .i64 v,s]=>(capN s).map fun n=>(n.1,.bool (g2m n.2 v))
 |_=>none
def j53:Fam:=⟨Int×Int,fun(v,n)=>[.int .i64 v,f4n n],fun _=>True,fun(v,n)=>.bool (g2m n v)⟩
theorem j4q:PS c0n d10:=by
 refine con [] Dv j53 (fun _ _=>none) d10 ?_ ?_ Go.Proofs.Tryz.func210 Du Du Du ?_
 ·intro args pre s h hp
  unfold d10 at h
  split at h
  ·rename_i v x
   simp only[J1]at h
   obtain⟨⟨q,n⟩,hx,he⟩:=h
   cases he
   rw[d66 hx hp]
   exact⟨(v,n),⟨E3,by simp[f4n,SV.le2,SV.le1,SV.le0],Ix⟩,Ix,rfl⟩
  ·cases h
 ·exact Bv
 ·rintro⟨v,n⟩ hp
  refine wlk _ ?_;(repeat' first|constructor|refine Iu fun hu=> ?_|intro h);all_goals refine Lm ?_
  all_goals(first|rfl|skip)
abbrev f0r:FuncId:=211
def d2q:Kon
 | [x,.clo g [c]]=>if g=c0n then(match b04.as x with
   |some (n,f)=>(capN c).map fun m=>(m.1∧b04.isL n f∧n≤100000,.int .i64 (f5b (g2m m.2) (b04.lst n f)))
   |none=>none)else none
 |_=>none
def g1n:Fam:=⟨List Int×Int,fun(l,m)=>[.sl 1 l.length (b04.row l) none,.clo c0n [f4n m]],fun(l,_)=>l.length≤100000,fun(l,m)=>.int .i64 (f5b (g2m m) l)⟩
def j4t:List Int×Int→Nat→Option Inv
 |(l,m),2=>some {β:=Nat,ok:=fun i=>i≤l.length∧∀j,j<i→g2m m (l.getD j 0)=false,st:=fun i=>⟨[⟨8,none,.int .i64 i⟩,⟨7,none,.int .i64 l.length⟩,⟨1,none,.clo c0n [f4n m]⟩,⟨0,none,.sl 1 l.length (b04.row l) none⟩],[]⟩,μ:=fun i=>l.length-i}
 |_,_=>none
theorem j0j:PS f0r d2q:=by
 refine con [(c0n,d10)] (by simpa using j4q) g1n j4t d2q ?_ ?_ Go.Proofs.Tryz.func211 Du Du Du ?_
 ·intro args pre s h hp
  unfold d2q at h
  split at h
  ·split at h
   ·rename_i hg
    subst hg
    split at h
    ·rename_i n f hx
     simp only[J1]at h
     obtain⟨⟨q,m⟩,hm,he⟩:=h
     cases he
     rw[d66 hm hp.1]
     exact⟨(b04.lst n f,m),⟨b2p (b04.as_leL hx hp.2.1),⟨rfl,rfl⟩,Ix⟩,by simp only[g1n,RT.lst_length];exact hp.2.2,rfl⟩
    ·cases h
   ·cases h
  ·cases h
 ·exact Bv
 ·rintro⟨l,m⟩ hp
  replace hp:l.length≤100000:=hp
  refine wlk _ ?_;(repeat' first|constructor|refine Iu fun hu=> ?_|intro h);all_goals refine Lm ?_
  refine⟨(0:Nat),⟨J5 _,fun j hj=>Dt⟩,?_,?_⟩
  ·refine wlk _ ?_;(repeat' first|constructor|refine Iu fun hu=> ?_|intro h);all_goals refine Lm ?_
   all_goals first|exact A5|skip
  ·intro i hi
   obtain⟨cw,be⟩:=hi
   refine wlk _ ?_;(repeat' first|constructor|refine Iu fun hu=> ?_|intro h);all_goals refine Lm ?_
   all_goals(try simp only[I8]at*)
   all_goals(first
    |exact An
    |rfl
    |exact(d1m Dt be Dx).symm
    |(refine⟨i+1,⟨Dt,fun j hj=> ?_⟩,E6,?_⟩)
    |exact Bi
    |skip)
   ·by_cases e:j<i
    ·exact be j e
    ·have:j=i:=Dt
     subst this
     assumption
   ·refine wlk _ ?_;(repeat' first|constructor|refine Iu fun hu=> ?_|intro h);all_goals refine Lm ?_
    all_goals first|exact Aq|skip
abbrev f2m:FuncId:=170
def d0v:Kon
 | [x,.clo g [c]]=>if g=c0n then(match b04.as x with
   |some (n,f)=>(capN c).map fun m=>(m.1∧b04.isL n f∧n≤100000,.bool ((b04.lst n f).any (g2m m.2)))
   |none=>none)else none
 |_=>none
def f91:Fam:=⟨List Int×Int,fun(l,m)=>[.sl 1 l.length (b04.row l) none,.clo c0n [f4n m]],fun(l,_)=>l.length≤100000,fun(l,m)=>.bool (l.any (g2m m))⟩
theorem j1q:PS f2m d0v:=by
 refine con [(f0r,d2q)] (by simpa using j0j) f91 (fun _ _=>none) d0v ?_ ?_ Go.Proofs.Tryz.func170 Du Du Du ?_
 ·intro args pre s h hp
  unfold d0v at h
  split at h
  ·split at h
   ·rename_i hg
    subst hg
    split at h
    ·rename_i n f hx
     simp only[J1]at h
     obtain⟨⟨q,m⟩,hm,he⟩:=h
     cases he
     rw[d66 hm hp.1]
     exact⟨(b04.lst n f,m),⟨b2p (b04.as_leL hx hp.2.1),⟨rfl,rfl⟩,Ix⟩,by simp only[f91,RT.lst_length];exact hp.2.2,rfl⟩
    ·cases h
   ·cases h
  ·cases h
 ·exact Bv
 ·rintro⟨l,m⟩ hp
  replace hp:l.length≤100000:=hp
  refine wlk _ ?_;(repeat' first|constructor|refine Iu fun hu=> ?_|intro h);all_goals refine Lm ?_
  all_goals(try simp only[RT.lst_row]at*)
  all_goals(first
   |exact⟨Ix,b04.isL_row l,hp⟩
   |exact d24 _ _
   |skip)
end Go.Proofs.YtdblhepcmjecgaaGreatDoor.V
