/-
  Parts of the proof: A30 A31 Q8 D12 D14 D15 Y12 Y13 Y14 D16 Y15 D17 Y16 D18 D19 D22 D23. Conditions: none.
-/
import Derived.Test.YtaihldljnlgnoaaGreatDoorSkc7
import Derived.Test.YtaihldljnlgnoaaGreatDoorSkc8
import Derived.Test.YtaihldljnlgnoaaGreatDoorSkc9
import Derived.Test.YtaihldljnlgnoaaGreatDoorSkc10
set_option maxRecDepth 100000
set_option maxHeartbeats 40000000
namespace Go.Proofs.YtaihldljnlgnoaaGreatDoor.V
open Go
def Wo:AK
 | [.agg [.int .i64 a,.int .i64 b,.int .u8 c,x],.agg [.int .i64 d,.int .i64 e,.int .u8 f,y]]=>match AC.as x,AC.as y with
   |some u,some v=>some ((AC.isL u.1 u.2/\AC.isL v.1 v.2)/\AD .u8 c/\AD .u8 f,.int .i64 (FQ a b c d e f))
   |_,_=>none
 |_=>none
theorem pMv2:PS 125 Wo:=by
 refine con [(100,Ro)] Ha FOvr1 (λ_ _=>none) Wo ?_ ?_ Tryz.func125 Dy Dy Dy ?_
 .intro args pre s h g;unfold Wo at h;split at h
  .rename_i a b c x d e f y;split at h
   .rename_i u v j k;cases h;obtain⟨⟨l,m⟩,n⟩:=g;refine⟨(⟨⟨a,b,c⟩,AC.lst u.1 u.2⟩,⟨⟨d,e,f⟩,AC.lst v.1 v.2⟩),⟨⟨E3,E3,E3,AC.as_leL j l,Ja⟩,⟨E3,E3,E3,AC.as_leL k m,Ja⟩,Ja⟩,n,rfl⟩
   .cases h
  .cases h
 .exact Bx
 .rintro⟨s,t⟩ g;replace g:AD .u8 s.c.q/\AD .u8 t.c.q:=g;exact X2a
theorem ov_st(b:Bool)(L:List Stk)(i:Nat)(x y:Stk):over (Bl b (AA.sv x) (AA.row L i)) 0 (AA.sv y)=AA.sv y:=by cases b<;>rfl
theorem ov_st0(L:List Stk)(i:Nat)(y:Stk):over (AA.row L i) 0 (AA.sv y)=AA.sv y:=rfl
theorem d4e{L:List Stk}{i j q:Nat}(hi:i<L.length)(c:j<L.length):
 Bl (decide (q=j)) (over (Bl (decide (j=i)) (over (AA.row L i) 0 (AA.sv (L.getD j AA.d))) (AA.row L j)) 0 (AA.sv (L.getD i AA.d))) (Bl (decide (q=i)) (over (AA.row L i) 0 (AA.sv (L.getD j AA.d))) (AA.row L q))=AA.row (Eo AA.d L i j) q:=by
 rw[ov_st0,ov_st];have e:AA.row (Eo AA.d L i j) q=AA.sv ((Eo AA.d L i j).getD q AA.d):=rfl;rw[e,b6p hi c];by_cases b:q=j
 .rw[J7 b,Jr b];by_cases a:q=i
  .rw[Jr a];rfl
  .rw[Jq a];rfl
 .rw[J8 b,Jq b];by_cases a:q=i
  .rw[J7 a,Jr a];rfl
  .rw[J8 a,Jq a];rfl
abbrev CG:TypeId:=41
def hSwR:HK:=λc own=>match c,own with
 | [.osl 0,.int .i64 a,.int .i64 b,.int .i64 k,.clo f []],[.row T 4 n g _]=>if T=CG/\f=125 then some ⟨AA.isL n g/\n<=100000/\0<=a/\0<=b/\0<=k/\a+k<=n/\b+k<=n,.tup [],[.row CG 4 (AA.lst n g).length (AA.row (KS AA.d a.toNat b.toNat k.toNat 0 (AA.lst n g))) none],[]⟩else none
 |_,_=>none
def FSwR:FamH:=⟨List Stk×Nat×Nat×Nat,λ(_,a,b,k)=>[.osl 0,.int .i64 a,.int .i64 b,.int .i64 k,.clo 125 []],λ(l,_)=>[.row CG 4 l.length (AA.row l) none],λ(l,a,b,k)=>l.length<=100000/\a+k<=l.length/\b+k<=l.length,λ_=>.tup [],λ(l,a,b,k)=>[.row CG 4 l.length (AA.row (KS AA.d a b k 0 l)) none],[]⟩
def ISwR:List Stk×Nat×Nat×Nat->Nat->Option Inv
 |(l,a,b,k),1=>some {β:=Nat×List Stk,ok:=λ(i,m)=>i<=k/\m.length=l.length/\KS AA.d a b (k-i) i m=KS AA.d a b k 0 l,st:=λ(i,m)=>⟨[⟨10,none,.int .i64 i⟩,⟨3,none,.int .i64 k⟩,⟨2,none,.int .i64 b⟩,⟨1,none,.int .i64 a⟩,⟨0,none,.osl 0⟩],[.row CG 4 l.length (AA.row m) none]⟩,μ:=λ(i,_)=>k-i}
 |_,_=>none
theorem WK{n:Nat}{g:Nat->List SV}{c:Option Nat}(h:AA.isL n g):SH 1 [.row CG 4 n g c] [.row CG 4 (AA.lst n g).length (AA.row (AA.lst n g)) none]:=
 ⟨⟨Eg,(RT.lst_length AA n g).symm,Ja,RT.row_isL AA h⟩,Ja⟩
theorem pSwR:HS 248 hSwR:=by
 refine FU {} ⟨Dz,Dz,Dz⟩ FSwR ISwR hSwR ?_ ?_ ?_ Tryz.func248 Dy Dy Dy ?_
 .intro args own r h t;unfold hSwR at h;split at h
  .rename_i a b k f T n g c;split at h
   .rename_i u;obtain⟨rfl,rfl⟩:=u;cases h;obtain⟨v,p2,p3,p4,p5,p6,p7⟩:=t;have hl:=RT.lst_length AA n g;exact⟨(AA.lst n g,a.toNat,b.toNat,k.toNat),⟨E6,Ek,Ek,Ek,E6,Ja⟩,rfl,WK v,⟨Dx,Dx,Dx⟩,rfl,rfl,rfl⟩
   .cases h
  .cases h
 .exact Cd
 .exact C3
 .rintro⟨l,a,b,k⟩ μ ⟨h0,h1,h2⟩;refine X0a _ ?_;(repeat' first|constructor|intro h)<;>refine Lm ?_
  refine⟨((0:Nat),l),⟨Dx,rfl,by rw[Nat.sub_zero]⟩,?_,?_⟩
  .exact X2b
  .rintro⟨i,m⟩ o;replace o:i<=k/\m.length=l.length/\KS AA.d a b (k-i) i m=KS AA.d a b k 0 l:=o;obtain⟨f7,w,s⟩:=o;have x:((a:Int)+i).toNat=a+i:=Dx;have y:((b:Int)+i).toNat=b+i:=Dx;refine X0b _ ?_;(repeat' first|constructor|intro h)<;>refine Lm ?_
   all_goals(try simp only[If,x,y]at*)
   all_goals(try first
    |exact B8
    |(show _<l.length;omega)
    |(intro q _;left
      have e:KS AA.d a b (k-i) i m=m:=by rw[show k-i=0 from Dx];rfl
      rw[<-s,e]))
   refine⟨(i+1,Eo AA.d m (a+i) (b+i)),⟨by show i+1<=k;omega,by show (Eo AA.d m (a+i) (b+i)).length=_;rw[b3a];exact w,?_⟩,by show k-(i+1)<k-i;omega,?_⟩
   .rw[<-s,show k-i=(k-(i+1))+1 from Dx];rfl
   .refine X0b _ ?_;(repeat' first|constructor|intro h)<;>refine Lm ?_
    all_goals first
     |rfl
     |omega
     |exact Bn
     |skip
def hRot:HK:=λc own=>match c,own with
 | [.osl 0,.int .i64 a,.int .i64 m,.int .i64 b,.clo f []],[.row T 4 n g _]=>if T=CG/\f=125 then some ⟨AA.isL n g/\n<=100000/\0<=a/\a<m/\m<b/\b<=n,.tup [],[.row CG 4 (AA.lst n g).length (AA.row (HX AA.d a.toNat m.toNat b.toNat (AA.lst n g))) none],[]⟩else none
 |_,_=>none
def FRot:FamH:=⟨List Stk×Nat×Nat×Nat,λ(_,a,m,b)=>[.osl 0,.int .i64 a,.int .i64 m,.int .i64 b,.clo 125 []],λ(l,_)=>[.row CG 4 l.length (AA.row l) none],λ(l,a,m,b)=>l.length<=100000/\a<m/\m<b/\b<=l.length,λ_=>.tup [],λ(l,a,m,b)=>[.row CG 4 l.length (AA.row (HX AA.d a m b l)) none],[]⟩
def IRot:List Stk×Nat×Nat×Nat->Nat->Option Inv
 |(l,a,m,b),2=>some {β:=Nat×Nat×Nat×List Stk,ok:=λ(f,i,j,L)=>0<i/\0<j/\i<=m/\m+j<=l.length/\i+j<=f/\L.length=l.length/\SE AA.d m f i j L=HX AA.d a m b l,st:=λ(_,i,j,L)=>⟨[⟨11,none,.int .i64 j⟩,⟨10,none,.int .i64 i⟩,⟨4,none,.clo 125 []⟩,⟨2,none,.int .i64 m⟩,⟨0,none,.osl 0⟩],[.row CG 4 l.length (AA.row L) none]⟩,μ:=λ(f,_)=>f}
 |_,_=>none
theorem pRot:HS 234 hRot:=by
 refine FU {h:=[(248,hSwR)]} ⟨Dz,Dz,by simpa using pSwR⟩ FRot IRot hRot ?_ ?_ ?_ Tryz.func234 Dy Dy Dy ?_
 .intro args own r h w;unfold hRot at h;split at h
  .rename_i a m b f T n g c;split at h
   .rename_i x;obtain⟨rfl,rfl⟩:=x;cases h;obtain⟨y,p2,p3,p4,p5,p6⟩:=w;have hl:=RT.lst_length AA n g;exact⟨(AA.lst n g,a.toNat,m.toNat,b.toNat),⟨E6,Ek,Ek,Ek,E6,Ja⟩,rfl,WK y,⟨Dx,Dx,Dx,Dx⟩,rfl,rfl,rfl⟩
   .cases h
  .cases h
 .exact Cd
 .exact C3
 .rintro⟨l,a,m,b⟩ μ ⟨h0,h1,h2,h3⟩;refine X0a _ ?_;(repeat' first|constructor|intro h)<;>refine Lm ?_
  all_goals(try(simp only[AD];omega))
  refine⟨(b-a,m-a,b-m,l),⟨by show 0<m-a;omega,by show 0<b-m;omega,by show m-a<=m;omega,by show m+(b-m)<=_;omega,by show m-a+(b-m)<=b-a;omega,rfl,rfl⟩,?_,?_⟩
  .exact X2c
  .rintro⟨f,i,j,L⟩ t;replace t:0<i/\0<j/\i<=m/\m+j<=l.length/\i+j<=f/\L.length=l.length/\SE AA.d m f i j L=HX AA.d a m b l:=t;obtain⟨z,A,B,C,i5,e,k⟩:=t;obtain⟨f,rfl⟩:∃E,f=E+1:=⟨f-1,Dx⟩
   simp only[SE]at k;have q:AA.lst l.length (AA.row L)=L:=by rw[<-e];exact RT.lst_row _ _
   have qk:AA.isL l.length (AA.row L):=by rw[<-e];exact AA.isL_row L
   have u:((m:Int)-i).toNat=m-i:=Dx;have v:((m:Int)+j-i).toNat=m+j-i:=Dx;rcases N0 i j with s|s|s
   .rw[J8 Dx,J8 Dx]at k;refine X0b _ ?_;(repeat' first|constructor|intro h)<;>refine Lm ?_
    all_goals(try simp only[If,Ig]at*)
    all_goals(try first
     |exact Av
     |(rw[q,e];done))
    have hs:=VX (d:=AA.d) (a:=m-i) (b:=m+j-i) i 0 L Dx Dx;refine⟨(f,i,j-i,KS AA.d (m-i) (m+j-i) i 0 L),⟨z,by show 0<j-i;omega,B,by show m+(j-i)<=_;omega,by show i+(j-i)<=f;omega,by show (KS AA.d (m-i) (m+j-i) i 0 L).length=_;rw[hs.1];exact e,k⟩,Ee,?_⟩;all_goals exact X2d
   .rw[J7 s]at k;refine X0b _ ?_;(repeat' first|constructor|intro h)<;>refine Lm ?_
    all_goals(try simp only[If,Ig]at*)
    all_goals(try first
     |exact Av
     |(rw[q,e];done))
    all_goals(try simp only[q,u])
    all_goals(try rw[<-k])
    all_goals first|rfl|exact e|exact A5|skip
   .rw[J8 Dx,J7 s]at k;refine X0b _ ?_;(repeat' first|constructor|intro h)<;>refine Lm ?_
    all_goals(try simp only[If,Ig]at*)
    all_goals(try first
     |exact Av
     |(rw[q,e];done))
    have hs:=VX (d:=AA.d) (a:=m-i) (b:=m) j 0 L Dx Dx;refine⟨(f,i-j,j,KS AA.d (m-i) m j 0 L),⟨by show 0<i-j;omega,A,by show i-j<=m;omega,C,by show i-j+j<=f;omega,by show (KS AA.d (m-i) m j 0 L).length=_;rw[hs.1];exact e,k⟩,Ee,?_⟩;all_goals exact X2d
def AW(x y:Stk):Bool:=decide (FQ x.c.x x.c.y x.c.q y.c.x y.c.y y.c.q<0)
theorem Pm{x y:Stk}:AW x y=true↔FQ x.c.x x.c.y x.c.q y.c.x y.c.y y.c.q<0:=by unfold AW;exact decide_eq_true_iff
theorem c1g{a j:Nat}{M:List Stk}(c:a<j)(b:AW (M.getD j AA.d) (M.getD (j-1) AA.d)=true):FZ AA.d AW a j M=FZ AA.d AW a (j-1) (Eo AA.d M j (j-1)):=by
 obtain⟨k,rfl⟩:∃k,j=k+1:=⟨j-1,Dx⟩
 simp only[Nr]at b⊢;rw[FZ,J7 ⟨c,b⟩]
theorem b7h{a j:Nat}{M:List Stk}(h:¬(a<j/\AW (M.getD j AA.d) (M.getD (j-1) AA.d)=true)):FZ AA.d AW a j M=M:=by
 cases j with
 |zero=>rfl
 |succ k=>
  simp only[Nr]at h;rw[FZ,J8 h]
def hIns:HK:=λe own=>match e,own with
 | [.osl 0,.int .i64 a,.int .i64 b,.clo f []],[.row T 4 n g _]=>if T=CG/\f=125 then some ⟨AA.isL n g/\n<=100000/\0<=a/\a<=100000/\0<=b/\b<=n/\(∀s∈AA.lst n g,AD .u8 s.c.q),.tup [],[.row CG 4 (AA.lst n g).length (AA.row (Fo AA.d AW a.toNat b.toNat (AA.lst n g))) none],[]⟩else none
 |_,_=>none
def FIns:FamH:=⟨List Stk×Nat×Nat,λ(_,a,b)=>[.osl 0,.int .i64 a,.int .i64 b,.clo 125 []],λ(l,_)=>[.row CG 4 l.length (AA.row l) none],λ(l,a,b)=>l.length<=100000/\a<=100000/\b<=l.length/\∀s∈l,AD .u8 s.c.q,λ_=>.tup [],λ(l,a,b)=>[.row CG 4 l.length (AA.row (Fo AA.d AW a b l)) none],[]⟩
def IIns:List Stk×Nat×Nat->Nat->Option Inv
 |(l,a,b),1=>some {β:=Nat×List Stk,ok:=λ(i,L)=>a+1<=i/\i<=a+b+1/\Sub L l/\HY AA.d AW a (b-i) i L=Fo AA.d AW a b l,st:=λ(i,L)=>⟨[⟨8,none,.int .i64 i⟩,⟨3,none,.clo 125 []⟩,⟨2,none,.int .i64 b⟩,⟨1,none,.int .i64 a⟩,⟨0,none,.osl 0⟩],[.row CG 4 l.length (AA.row L) none]⟩,μ:=λ(i,_)=>b-i,sub:=λ(i,_)=>some fun
  |4=>some {β:=Nat×List Stk,ok:=λ(j,L)=>j<=i/\i<b/\Sub L l/\HY AA.d AW a (b-(i+1)) (i+1) (FZ AA.d AW a j L)=Fo AA.d AW a b l,st:=λ(j,L)=>⟨[⟨9,none,.int .i64 j⟩,⟨8,none,.int .i64 i⟩,⟨3,none,.clo 125 []⟩,⟨2,none,.int .i64 b⟩,⟨1,none,.int .i64 a⟩,⟨0,none,.osl 0⟩],[.row CG 4 l.length (AA.row L) none]⟩,μ:=λ(j,_)=>j}
  |_=>none}
 |_,_=>none
theorem pIns:HS 170 hIns:=by
 refine FU {l:=[(125,Wo)]} ⟨by simpa using pMv2,Dz,Dz⟩ FIns IIns hIns ?_ ?_ ?_ Tryz.func170 Dy Dy Dy ?_
 .intro args own r h A;unfold hIns at h;split at h
  .rename_i a b f T n g c;split at h
   .rename_i B;obtain⟨rfl,rfl⟩:=B;cases h;obtain⟨C,p2,p3,p4,p5,p6,E⟩:=A;have hl:=RT.lst_length AA n g;exact⟨(AA.lst n g,a.toNat,b.toNat),⟨E6,Ek,Ek,E6,Ja⟩,rfl,WK C,⟨Dx,Dx,Dx,E⟩,rfl,rfl,rfl⟩
   .cases h
  .cases h
 .intro i;show 4<=_;decide
 .exact C3
 .rintro⟨l,a,b⟩ μ ⟨h0,h1,h2,F⟩;refine X0a _ ?_;(repeat' first|constructor|intro h)<;>refine Lm ?_
  all_goals(try(simp only[AD];omega))
  refine⟨(a+1,l),⟨Jf _,by show a+1<=a+b+1;omega,Sub.refl l,rfl⟩,?_,?_⟩
  .exact X2c
  .rintro⟨i,L⟩ o;replace o:a+1<=i/\i<=a+b+1/\Sub L l/\HY AA.d AW a (b-i) i L=Fo AA.d AW a b l:=o;obtain⟨i1,i2,G,t⟩:=o;refine X0b _ ?_;(repeat' first|constructor|intro h)<;>refine Lm ?_
   all_goals(try simp only[If]at*)
   all_goals(try first
    |exact B8
    |(intro q _;left
      have e:HY AA.d AW a (b-i) i L=L:=by rw[show b-i=0 from Dx];rfl
      rw[<-t,e]))
   refine⟨(i,L),⟨Jf _,Dx,G,?_⟩,?_,?_⟩
   .rw[<-t,show b-i=(b-(i+1))+1 from Dx];rfl
   .exact X2b
   .rintro⟨j,M⟩ s;replace s:j<=i/\i<b/\Sub M l/\HY AA.d AW a (b-(i+1)) (i+1) (FZ AA.d AW a j M)=Fo AA.d AW a b l:=s;obtain⟨j1,H,m,u⟩:=s;have hq:∀x,x<l.length->AD .u8 (M.getD x AA.d).c.q:=λx hx=>F _ (m.2 _ (by rw[J5,J6 (by rw[m.1];exact hx),Kx];exact Kb _));have hM:=m.1;have v:((j:Int)-1).toNat=j-1:=Dx;by_cases w:a<j/\FQ (M.getD j AA.d).c.x (M.getD j AA.d).c.y (M.getD j AA.d).c.q (M.getD (j-1) AA.d).c.x (M.getD (j-1) AA.d).c.y (M.getD (j-1) AA.d).c.q<0
    .obtain⟨I,J⟩:=w;refine X0b _ ?_;(repeat' first|constructor|intro h)<;>refine Lm ?_
     all_goals(try simp only[If,Ik,v]at*)
     all_goals(try first
      |exact B2
      |(show j<l.length;omega)
      |(show j-1<l.length;omega)
      |exact Bq)
     have hs:=RA (d:=AA.d) (l:=M) (i:=j) (j:=j-1) Dx Dx;refine⟨(j-1,Eo AA.d M j (j-1)),⟨by show j-1<=i;omega,H,hs.trans m,?_⟩,by show j-1<j;omega,?_⟩
     .rw[<-u,c1g I (Pm.2 J)]
     .refine X0b _ ?_;(repeat' first|constructor|intro h)<;>refine Lm ?_
      all_goals first
       |exact Bg
       |exact Bn
       |skip
    .refine X0b _ ?_;(repeat' first|constructor|intro h)<;>refine Lm ?_
     all_goals(try simp only[If,Ik,v]at*)
     all_goals(try first
      |exact B2
      |exact Bq)
     have e:FZ AA.d AW a j M=M:=b7h (λz=>w ⟨z.1,Pm.1 z.2⟩);refine⟨(i+1,M),⟨by show a+1<=i+1;omega,by show i+1<=a+b+1;omega,m,by rw[<-u,e]⟩,by show b-(i+1)<b-i;omega,?_⟩;all_goals exact X2e
section
variable{α:Type}{d:α}{lt:α->α->Bool}{key:α->List Int}
def On(key:α->List Int)(x y:α):Prop:=BB (key x) (key y)<=0
theorem f8n(a:∀x y,lt x y=decide (BB (key x) (key y)<0)){x y:α}:¬lt x y=true↔On key y x:=by rw[a,Jh];unfold On;have:=JQ (key x) (key y);omega
theorem d0e{j:Nat}{l:List α}(h:j<l.length):(FZ d lt 0 j l).length=l.length:=(b6e j l h).len
theorem c1m(w:∀x y,lt x y=decide (BB (key x) (key y)<0)){m:Nat}:∀(j:Nat) (l:List α),j<=m->m<l.length->(∀i k,i<k->k<=m->i≠j->k≠j->On key (l.getD i d) (l.getD k d))->(∀k,j<k->k<=m->On key (l.getD j d) (l.getD k d))->
 ∀i k,i<k->k<=m->On key ((FZ d lt 0 j l).getD i d) ((FZ d lt 0 j l).getD k d)
 |0,l,_,_,g,s=>by
  intro i k o r;rw[FZ];by_cases e:i=0
  .subst e;exact s k o r
  .exact g i k o r e Dx
 |j+1,l,hj,B,g,s=>by
  intro i k o r;rw[FZ];split
  .rename_i z;have C:=z.2;have t:On key (l.getD (j+1) d) (l.getD j d):=by
    rw[w,Jh]at C;unfold On;omega
   have u:∀n,(Eo d l (j+1) j).getD n d=if n=j then l.getD (j+1) d else if n=j+1 then l.getD j d else l.getD n d:=λn=>b6p Dx Dx;refine c1m w j (Eo d l (j+1) j) Dx (by rw[b3a];exact B) (λa b A v E nb=> ?_) (λb A v=> ?_) i k o r
   .rw[u,u,J8 E,J8 nb];by_cases f:a=j+1
    .rw[J7 f,J8 Dx];exact g j b Dx v Dx Dx
    .rw[J8 f];by_cases c:b=j+1
     .rw[J7 c];exact g a j Dx Dx f Dx
     .rw[J8 c];exact g a b A v f c
   .rw[u,u,J7 rfl,J8 Dx];by_cases c:b=j+1
    .rw[J7 c];exact t
    .rw[J8 c];exact s b Dx v
  .rename_i z;have t:On key (l.getD j d) (l.getD (j+1) d):=(f8n w).1 (λq=>z ⟨Dx,q⟩);by_cases f:i=j+1
   .subst f;exact s k o r
   .by_cases c:k=j+1
    .subst c;by_cases F:i=j
     .subst F;exact t
     .exact b8y (g i j Dx Dx f Dx) t
    .exact g i k o r f c
theorem b7a(e:∀x y,lt x y=decide (BB (key x) (key y)<0)):∀(k i:Nat) (l:List α),i+k<=l.length->(∀a b,a<b->b<i->On key (l.getD a d) (l.getD b d))->∀a b,a<b->b<i+k->On key ((HY d lt 0 k i l).getD a d) ((HY d lt 0 k i l).getD b d)
 |0,i,l,_,h=>λa b c g=>h a b c Dx
 |k+1,i,l,hl,h=>by intro a b c g;rw[HY];have n:=d0e (d:=d) (lt:=lt) (j:=i) (l:=l) Dx;refine b7a e k (i+1) _ (by rw[n];omega) (λx y o h4=> ?_) a b c Dx;exact c1m e (m:=i) i l (Jf _) Dx (λx y f q n1 n2=>h x y f Dx) (λy f q=>Dx) x y o Dx
theorem b4z(M:List α):(Fo d lt 0 M.length M).Perm M:=(WP (Jf _)).perm
theorem d2c(l:∀x y,lt x y=decide (BB (key x) (key y)<0)){M:List α}(m:(M.map key).Nodup):∀i j,i<j->j<(Fo d lt 0 M.length M).length->BB (key ((Fo d lt 0 M.length M).getD i d)) (key ((Fo d lt 0 M.length M).getD j d))<0:=by
 intro i j c n;have f:=b4z (d:=d) (lt:=lt) M;have g:((Fo d lt 0 M.length M).map key).Nodup:=((f.symm.map _).nodup_iff).1 m;have hl:=f.length_eq;have o:On key ((Fo d lt 0 M.length M).getD i d) ((Fo d lt 0 M.length M).getD j d):=by unfold Fo;refine b7a l (M.length-(0+1)) (0+1) M Dx (λa b h3 h4=>Dx) i j c Dx
 unfold On at o;have b9:BB (key ((Fo d lt 0 M.length M).getD i d)) (key ((Fo d lt 0 M.length M).getD j d))≠0:=λe=>by have k:=Pz _ _ e;rw[List.Nodup,Kg]at g;have:=g i j (by rw[K8];omega) (by rw[K8];omega) c;rw[Mg,Mg]at this;rw[J5,J5,J6 Dx,J6 n]at k;exact this k
 omega
end
def ED(K C sd:Int)(L:List Stk):List Stk:=L.filter λs=> !decide (DJ K C s.c=sd)
def DM(K C sd:Int)(L:List Stk):List Stk:=(L.filter λs=>decide (DJ K C s.c=sd)).map λs=>⟨BE (BJ K C) s.c,s.l.reverse⟩
def NN(over:Bool)(a b:List Int):List Int:=if over=true then a++b else b++a
def ER(over:Bool):List Stk->Stk->List Stk
 | [],x=>[x]
 |s::S,x=>if s.c=x.c then⟨s.c,NN over s.l x.l⟩::S else s::ER over S x
def AX(over:Bool)(S A:List Stk):List Stk:=A.foldl (ER over) S
def NJ(M:List Stk):List Stk:=Fo AA.d AW 0 M.length M
def JW(over:Bool)(K C sd:Int)(L:List Stk):List Stk:=NJ (AX over (ED K C sd L) (DM K C sd L))
theorem LN(s:Stk)(L:List Stk)(c:Cl):AY (s::L) c=if s.c=c then s.l else AY L c:=by
 unfold AY;rw[List.find?_cons];by_cases h:s.c=c
 .simp[h]
 .simp[h]
theorem XN(c:Cl):AY [] c=[]:=rfl
theorem c5c(over:Bool)(l:List Int):NN over [] l=l:=by unfold NN;split<;>simp
theorem d18{over:Bool}{x:Stk}:∀(S:List Stk) (c:Cl),AY (ER over S x) c=if c=x.c then NN over (AY S c) x.l else AY S c
 | [],c=>by
   rw[ER,LN,XN,c5c];by_cases h:x.c=c
   .rw[J7 h,J7 h.symm]
   .rw[J8 h,J8 (λq=>h q.symm)]
 |s::S,c=>by
  rw[ER];split
  .rename_i h;rw[LN,LN];by_cases q:s.c=c
   .rw[J7 q,J7 q,J7 (q.symm.trans h)]
   .rw[J8 q,J8 q,J8 (λe=>q (h.trans e.symm))]
  .rename_i h;rw[LN,LN,d18 S c];by_cases q:s.c=c
   .rw[J7 q,J7 q,J8 (λe=>h (q.trans e))]
   .rw[J8 q,J8 q]
theorem c0u{over:Bool}{x:Stk}:∀(S:List Stk) (c:Cl),c∈(ER over S x).map (·.c)↔c∈S.map (·.c)\/c=x.c
 | [],c=>by simp[ER]
 |s::S,c=>by
  rw[ER];split
  .rename_i h;simp only[Kr,Ji];constructor
   .rintro(q|q)
    .exact .inl (.inl q)
    .exact .inl (.inr q)
   .rintro((q|q)|q)
    .exact .inl q
    .exact .inr q
    .exact .inl (q.trans h.symm)
  .simp only[Kr,Ji,c0u S c];exact or_assoc.symm
def DC(L:List Stk):Prop:=(L.map (·.c)).Nodup
theorem d1s{over:Bool}{x:Stk}:∀(S:List Stk),DC S->DC (ER over S x)
 | [],_=>by simp[DC,ER]
 |s::S,h=>by
  unfold DC at h⊢;rw[ER];rw[Kr,L5]at h;split
  .rw[Kr,L5];exact h
  .rename_i q;rw[Kr,L5];refine⟨λa=> ?_,d1s S h.2⟩;rcases(c0u S s.c).1 a with a|a
   .exact h.1 a
   .exact q a
theorem d78{over:Bool}{x:Stk}(hx:x.l≠[]):∀(S:List Stk),(∀s∈S,s.l≠[])->∀s∈ER over S x,s.l≠[]
 | [],_=>λs hs=>by simp only[ER,Jw]at hs;subst hs;exact hx
 |t::S,h=>λs hs=>by
  rw[ER]at hs;split at hs
  .rcases Ji.1 hs with rfl|hs
   .show NN over t.l x.l≠[];unfold NN;split<;>simp[hx]
   .exact h s (Ju _ hs)
  .rcases Ji.1 hs with rfl|hs
   .exact h _ Dz
   .exact d78 hx S (λz a=>h z (Ju _ a)) s hs
theorem b48{over:Bool}{x:Stk}:∀(S:List Stk) (k:Nat),k<S.length->(∀j,j<k->(S.getD j AA.d).c≠x.c)->(S.getD k AA.d).c=x.c->ER over S x=S.set k ⟨(S.getD k AA.d).c,NN over (S.getD k AA.d).l x.l⟩
 | [],k,h,_,_=>E8
 |s::S,0,_,_,h=>by rw[ER];have a:s.c=x.c:=h;rw[J7 a];rfl
 |s::S,k+1,h,b,e=>by rw[ER];have a:s.c≠x.c:=b 0 Dx;rw[J8 a,b48 S k E4 (λj bn=>b (j+1) Dx) e];rfl
theorem YR{over:Bool}{x:Stk}:∀(S:List Stk),(∀j,j<S.length->(S.getD j AA.d).c≠x.c)->ER over S x=S++[x]
 | [],_=>rfl
 |s::S,h=>by rw[ER];have a:s.c≠x.c:=h 0 Dz;rw[J8 a,YR S (λj hj=>h (j+1) En)];rfl
theorem c55{over:Bool}:∀(A S:List Stk),DC S->DC (AX over S A)
 | [],_,h=>h
 |x::A,S,h=>by show DC (AX over (ER over S x) A);exact c55 A _ (d1s S h)
theorem d4r{over:Bool}:∀(A S:List Stk),(∀s∈A,s.l≠[])->(∀s∈S,s.l≠[])->∀s∈AX over S A,s.l≠[]
 | [],_,_,h=>h
 |x::A,S,a,h=>d4r A _ (λs hs=>a s (Ju _ hs)) (d78 (a x Dz) S h)
theorem c71{over:Bool}:∀(A S:List Stk) (c:Cl),c∈(AX over S A).map (·.c)↔c∈S.map (·.c)\/c∈A.map (·.c)
 | [],S,c=>by simp[AX]
 |x::A,S,c=>by have:=c71 (over:=over) A (ER over S x) c;have e:AX over S (x::A)=AX over (ER over S x) A:=rfl;rw[e,this,c0u,Kr,Ji];exact or_assoc
theorem b42{L:List Stk}{c:Cl}(h:c∉L.map (·.c)):AY L c=[]:=by
 induction L with
 |nil=>rfl
 |cons s L a=>
  rw[Kr,Ji,not_or]at h;rw[LN,J8 (λq=>h.1 q.symm),a h.2]
theorem c1h(over:Bool)(l:List Int):NN over l []=l:=by unfold NN;split<;>simp
theorem c4m{over:Bool}:∀(A S:List Stk) (c:Cl),DC A->AY (AX over S A) c=NN over (AY S c) (AY A c)
 | [],S,c,_=>by rw[XN,c1h];rfl
 |x::A,S,c,h=>by
  unfold DC at h;rw[Kr,L5]at h;have e:AX over S (x::A)=AX over (ER over S x) A:=rfl;rw[e,c4m A _ c h.2,d18,LN];by_cases q:c=x.c
  .rw[J7 q,J7 q.symm,q,b42 h.1,c1h]
  .rw[J8 q,J8 (λz=>q z.symm)]
theorem QV{L:List Stk}(h:DC L){s:Stk}(hs:s∈L):AY L s.c=s.l:=by
 induction L with
 |nil=>cases hs
 |cons a L b=>
  unfold DC at h;rw[Kr,L5]at h;rw[LN];rcases Ji.1 hs with rfl|hs
  .rw[J7 rfl]
  .rw[J8 (λq=>h.1 (Js.2 ⟨s,hs,q.symm⟩))];exact b h.2 hs
theorem RC(L:List Stk)(c:Cl):(∃s∈L,s.c=c)\/AY L c=[]:=by
 by_cases h:c∈L.map (·.c)
 .obtain⟨s,hs,e⟩:=Js.1 h;exact .inl ⟨s,hs,e⟩
 .exact .inr (b42 h)
theorem b56{L M:List Stk}(a:DC L)(h:L.Perm M)(c:Cl):AY L c=AY M c/\DC M:=by
 have b:DC M:=((h.map _).nodup_iff).1 a;refine⟨?_,b⟩;rcases RC L c with⟨s,hs,rfl⟩|d
 .rw[QV a hs,QV b (h.mem_iff.1 hs)]
 .rcases RC M c with⟨s,hs,rfl⟩|e
  .rw[QV b hs,QV a (h.mem_iff.2 hs)]
  .rw[d,e]
theorem d6a{K C sd:Int}:∀(L:List Stk) (c:Cl),AY (ED K C sd L) c=if DJ K C c=sd then []else AY L c
 | [],c=>by simp[ED,XN]
 |s::L,c=>by
  have a:=@d6a K C sd L c;unfold ED at a⊢;rw[List.filter_cons];by_cases h:DJ K C s.c=sd
  .rw[J8 (by simp[h]),a,LN];by_cases q:s.c=c
   .rw[J7 q,<-q,J7 h,J7 h]
   .rw[J8 q]
  .rw[J7 (by simp[h]),LN,a,LN];by_cases q:s.c=c
   .rw[J7 q,J7 q,<-q,J8 h]
   .rw[J8 q,J8 q]
theorem d2q{K C sd:Int}{c:Cl}(b:CD c):∀(L:List Stk),(∀s∈L,CD s.c)->AY (DM K C sd L) c=if DJ K C (BE (BJ K C) c)=sd then(AY L (BE (BJ K C) c)).reverse else []
 | [],_=>by simp[DM,XN]
 |s::L,d=>by
  have a:=@d2q K C sd c b L (λt g=>d t (Ju _ g));have hs:=d s Dz;unfold DM at a⊢;have f:BE (BJ K C) s.c=c↔s.c=BE (BJ K C) c:=⟨λe=>by rw[<-e,Rl hs],λe=>by rw[e,Rl b]⟩
  rw[List.filter_cons];by_cases h:DJ K C s.c=sd
  .rw[J7 (by simp[h]),Kr,LN,a,LN];by_cases q:s.c=BE (BJ K C) c
   .rw[J7 (f.2 q),J7 q,<-q,J7 h]
   .rw[J8 (λz=>q (f.1 z)),J8 q]
  .rw[J8 (by simp[h]),a,LN];by_cases q:s.c=BE (BJ K C) c
   .rw[J7 q,<-q,J8 h,J8 h]
   .rw[J8 q]
theorem c5d(x y:Stk):AW x y=decide (BB (BP x.c) (BP y.c)<0):=by unfold AW;rw[Sw]
theorem c1d(M:List Stk):(NJ M).Perm M:=b4z M
theorem f5u{M:List Stk}(h:DC M):∀i j,i<j->j<(NJ M).length->BB (BP ((NJ M).getD i AA.d).c) (BP ((NJ M).getD j AA.d).c)<0:=by
 have a:(M.map λs=>BP s.c).Nodup:=by unfold DC at h;rw[List.Nodup,L2]at h⊢;exact h.imp λb e=>b (b92 e)
 exact d2c (key:=λs:Stk=>BP s.c) c5d a
theorem f4m{over:Bool}{K C sd:Int}{L:List Stk}(v:1<=K/\K<=4)(hsd:sd=0\/sd=1)(r:DC L)(hq:∀s∈L,CD s.c)(u:∀s∈L,s.l≠[]):
 (∀c,CD c->AY (JW over K C sd L) c=EN (AY L) K C sd over c)/\DC (JW over K C sd L)/\(∀s∈JW over K C sd L,s.l≠[]/\CD s.c)/\
 ∀i j,i<j->j<(JW over K C sd L).length->BB (BP ((JW over K C sd L).getD i AA.d).c) (BP ((JW over K C sd L).getD j AA.d).c)<0:=by
 have w:DC (ED K C sd L):=by unfold DC ED;exact Ns (List.filter_sublist.map _) r
 have x:DC (DM K C sd L):=by unfold DC DM;rw[Mq];have g:((L.filter λs=>decide (DJ K C s.c=sd)).map (·.c)).Nodup:=Ns (List.filter_sublist.map _) r;rw[List.Nodup,L2]at g⊢;refine List.Pairwise.imp_of_mem (λ{a b} ha hb tu e=> ?_) g;exact Dt
 have k:=c55 (over:=over) (DM K C sd L) _ w;have m:=c1d (AX over (ED K C sd L) (DM K C sd L));have y:∀c,c∈(AX over (ED K C sd L) (DM K C sd L)).map (·.c)->CD c:=by
  intro c f;rcases(c71 _ _ c).1 f with h|h
  .obtain⟨s,hs,rfl⟩:=Js.1 h;exact hq s (Ku.1 hs).1
  .obtain⟨s,hs,rfl⟩:=Js.1 h;obtain⟨t,n,rfl⟩:=Js.1 hs;exact QR JH (hq t (Ku.1 n).1)
 have o:∀s∈AX over (ED K C sd L) (DM K C sd L),s.l≠[]:=by refine d4r _ _ (λs hs=> ?_) (λs hs=>u s (Ku.1 hs).1);obtain⟨t,n,rfl⟩:=Js.1 hs;have:=u t (Ku.1 n).1;simpa using this
 refine⟨λc f=> ?_,(b56 k m.symm ⟨0,0,0⟩).2,λs hs=> ?_,λi j g z=>f5u k i j g z⟩
 .have e:AY (JW over K C sd L) c=AY (AX over (ED K C sd L) (DM K C sd L)) c:=((b56 k m.symm c).1).symm;rw[e,c4m _ _ c x,d6a,d2q f L hq];have hs:=@SS K C c v f;have Y6:=@Ql K C c;unfold EN;by_cases h:DJ K C c=sd
  .rw[J7 h,J8 Dx,J8 (λq=>q.2 h),c5c]
  .rw[J8 h,J7 Dx,J7 ⟨f,h⟩];rfl
 .have hs':s∈AX over (ED K C sd L) (DM K C sd L):=m.mem_iff.1 hs;exact⟨o s hs',y s.c (Js.2 ⟨s,hs',rfl⟩)⟩
structure StG (p:Pt) (r:Mv) (L:List Stk) (P:Int->Mv) (B:Int):Prop where
 hp:BG p=0
 G:PlcG p P
 r0:P 0=r
 bd:∀i,AQ p i->(-B<=(AR p P i).x/\(AR p P i).x<=B)/\ -B<=(AR p P i).y/\(AR p P i).y<=B
 lt:∀i j,i<j->j<L.length->BB (BP (L.getD i AA.d).c) (BP (L.getD j AA.d).c)<0
 ne:∀s∈L,s.l≠[]
 S:StkF p P (AY L)
 N:NcG p P (AY L)
 D:Tr p P (AY L)
theorem c92{L:List Stk}(lt:∀i j,i<j->j<L.length->BB (BP (L.getD i AA.d).c) (BP (L.getD j AA.d).c)<0):DC L:=by unfold DC;rw[List.Nodup,Kg];intro i j b a h e;rw[K8]at b a;rw[Mg,Mg]at e;have:=lt i j h a;rw[J5,J5,J6 b,J6 a]at this;simp only[Kx]at this;rw[e]at this;have h2:=JQ (BP L[j].c) (BP L[j].c);omega
theorem c7s:∀{l:List Int},l.Nodup->JN l=false
 | [],_=>rfl
 |x::l,h=>by obtain⟨h1,a⟩:=L5.1 h;simp only[JN,Lt];exact⟨Ev,c7s a⟩
theorem d21:∀(n:Nat) (l:List Int),(∀x:Int,0<=x->x<n->x∈l)->n<=l.length
 |0,_,_=>Jj _
 |n+1,l,h=>by have a:=h (n:Int) Dx Dx;have:=d21 n (l.erase (n:Int)) (λx b h1=>(List.mem_erase_of_ne Dx).2 (h x b Dx));rw[List.length_erase_of_mem a]at this;have h2:=List.length_pos_of_mem a;omega
section
variable{p:Pt}{P Q:Int->Mv}{f:Cl->List Int}
theorem UE(h:∀i,AQ p i->Q i=P i){i:Int}(hi:AQ p i):AR p Q i=AR p P i:=by unfold AR;rw[h i hi]
theorem UC(h:∀i,AQ p i->Q i=P i){i e:Int}(hi:AQ p i):BO p Q i e=BO p P i e:=by unfold BO;rw[h i hi]
theorem g0g(h:∀i,AQ p i->Q i=P i)(N:NcG p P f):NcG p Q f:=by
 refine⟨λi e j k c s q u d l=> ?_,λi e a k c g q r d n o=> ?_,λa k b m g l r kb d n o t=> ?_⟩
 .rw[UC h c.1,UC h s.1]at d;rw[UE h c.1]at l;rw[UC h c.1];exact N.pp i e j k c s q u d l
 .rw[UC h c.1,UC h g.1]at d;rw[UE h c.1]at n o;exact N.pl i e a k c g q r d n o
 .rw[UC h g.1,UC h l.1]at d;rw[UE h g.1]at n o t;exact N.ll a k b m g l r kb d n o t
theorem kd_cg(hs:AP p.W p.H=0)(h:∀i,AQ p i->Q i=P i)(D:Tr p P f):Tr p Q f:=by intro a k b d c;rw[UE h b.1]at c;rw[h _ (KG hs b.1 b.2.1 b.2.2).1];exact D a k b d c
end
namespace StG
variable{p:Pt}{r:Mv}{L:List Stk}{P:Int->Mv}{B:Int}
theorem hs(X:StG p r L P B):AP p.W p.H=0:=(FI X.hp).1
theorem cells(X:StG p r L P B):DC L:=c92 X.lt
theorem at_(X:StG p r L P B){s:Stk}(hs:s∈L):AY L s.c=s.l:=QV X.cells hs
theorem inSt(X:StG p r L P B){s:Stk}(hs:s∈L){v:Int}(a:v∈s.l):AQ p v/\AR p P v=s.c:=(X.S.mem s.c v).1 (by rw[X.at_ hs];exact a)
theorem one(X:StG p r L P B){s:Stk}(hs:s∈L):∃v,v∈s.l/\AQ p v/\AR p P v=s.c:=by
 cases hl:s.l with
 |nil=>exact absurd hl (X.ne s hs)
 |cons v l=>
  have a:v∈s.l:=by rw[hl];simp
  exact⟨v,by simp,X.inSt hs a⟩
theorem cQ(X:StG p r L P B){s:Stk}(hs:s∈L):CD s.c:=by obtain⟨v,_,a,b⟩:=X.one hs;rw[<-b];exact LA X.hs X.G a
theorem cB(X:StG p r L P B){s:Stk}(hs:s∈L):(-B<=s.c.x/\s.c.x<=B)/\ -B<=s.c.y/\s.c.y<=B:=by obtain⟨v,_,a,b⟩:=X.one hs;rw[<-b];exact X.bd v a
theorem vm(X:StG p r L P B)(hB:B<=4000){i:Int}(hi:AQ p i):vM (P i)/\vC (AR p P i):=by
 obtain⟨b,c⟩:=X.G.ok i hi;have a:=X.bd i hi;have d:=LA X.hs X.G hi;have hc:=PH X.hs hi.1 hi.2;have hx:AR p P i=⟨(sq (P i).t (AJ p.W p.H i).x (AJ p.W p.H i).y).1+(P i).x,(sq (P i).t (AJ p.W p.H i).x (AJ p.W p.H i).y).2+(P i).y,tq (P i).t (AJ p.W p.H i).q⟩:=rfl;have zu:(-400<=(sq (P i).t (AJ p.W p.H i).x (AJ p.W p.H i).y).1/\(sq (P i).t (AJ p.W p.H i).x (AJ p.W p.H i).y).1<=400)/\ -400<=(sq (P i).t (AJ p.W p.H i).x (AJ p.W p.H i).y).2/\(sq (P i).t (AJ p.W p.H i).x (AJ p.W p.H i).y).2<=400:=by
  unfold sq;repeat' split
  all_goals(dsimp only;omega)
 refine⟨vM_of b c ?_ ?_,?_⟩
 .rw[hx]at a;simp only at a;omega
 .rw[hx]at a;simp only at a;omega
 .unfold vC;unfold CD at d;omega
theorem places(X:StG p r L P B)(a:B<=4000):Bo p r=0/\∀i,AQ p i->AL p r i=P i:=d5p X.hp X.G X.r0 λ_ b=>X.vm a b
theorem flat_mem(X:StG p r L P B)(v:Int):v∈Ao L↔AQ p v:=by
 unfold Ao;rw[List.mem_flatMap];constructor
 .rintro⟨s,hs,a⟩;exact(X.inSt hs a).1
 .intro a;have h:=(X.S.mem (AR p P v) v).2 ⟨a,rfl⟩;rcases RC L (AR p P v)with⟨s,hs,e⟩|b
  .rw[<-e,X.at_ hs]at h;exact⟨s,hs,h⟩
  .rw[b]at h;simp at h
theorem flat_nd(X:StG p r L P B):(Ao L).Nodup:=by
 unfold Ao;rw[List.Nodup,List.pairwise_flatMap];refine⟨λs hs=> ?_,?_⟩
 .have:=X.S.nd s.c;rw[X.at_ hs]at this;exact this
 .have a:=X.cells;unfold DC at a;rw[List.Nodup,List.pairwise_map]at a;refine a.imp_of_mem λ{s t} hs b d x hx y f e=> ?_;subst e;exact d ((X.inSt hs hx).2.symm.trans (X.inSt b f).2)
theorem sk(X:StG p r L P B)(w:B<=4000):CX p r L=0:=by
 have hs:=X.hs;have hN:=CF hs;have hc:DS p.W p.H=4*p.W*p.H:=by unfold DS;rw[if_pos hs]
 obtain⟨z,E⟩:=X.places w;have F:0<=r.t:=by rw[<-X.r0];exact(X.G.ok 0 ⟨Int.le_refl _,by omega⟩).1.1
 have I:=Oy F z;have J:HE p.W p.H L=0:=by
  unfold HE;rw[if_pos hs,if_neg,if_neg,if_neg]
  .have:AG p.W p.H<=(Ao L).length:=d21 _ _ λx A K=>(X.flat_mem x).2 ⟨A,by omega⟩;omega
  .rw[c7s X.flat_nd];decide
  .intro f;obtain⟨i,j,f⟩:=List.any_eq_true.1 f;have C:=List.mem_range.1 j;have k:=CP (d:=AA.d) C;have m:=X.cQ k;have M:=X.cB k;have N:=X.ne _ k;unfold CD at m;unfold IZ at f;have O:EC (L.getD i AA.d).c.x (L.getD i AA.d).c.y (L.getD i AA.d).c.q=0:=by unfold EC;rw[if_pos (by omega)]
   have Q:(decide (0<(i:Int))&&decide (0<=FQ (L.getD ((i:Int)-1).toNat AA.d).c.x (L.getD ((i:Int)-1).toNat AA.d).c.y (L.getD ((i:Int)-1).toNat AA.d).c.q (L.getD i AA.d).c.x (L.getD i AA.d).c.y (L.getD i AA.d).c.q))=false:=by
    by_cases A:0<i
    .have:=X.lt ((i:Int)-1).toNat i (by omega) C;rw[<-Sw]at this;rw[Bool.and_eq_false_iff];right;exact decide_eq_false (by omega)
    .rw[decide_eq_false (by omega)];rfl
   have R:decide (((L.getD i AA.d).l.length:Int)=0)=false:=decide_eq_false λh=>N (List.eq_nil_of_length_eq_zero (by omega));have S:(L.getD i AA.d).l.any (Ll (DS p.W p.H))=false:=by rw[List.any_eq_false];intro v o;have g:=(X.inSt k o).1;unfold AQ at g;unfold Ll;rw[Bool.or_eq_true,decide_eq_true_eq,decide_eq_true_eq];omega
   rw[O,Q,R,S]at f;simp at f
 unfold CX;rw[if_pos z,if_pos J,if_neg,if_neg]
 .intro f;obtain⟨s,n,f⟩:=List.any_eq_true.1 f;obtain⟨e,T,f⟩:=List.any_eq_true.1 f;have dp:=List.mem_range.1 T;have m:=X.cQ n;have M:=X.cB n;have u:=@MX s.c (e:Int) m (by omega);unfold QZ at f;unfold CD at m;have:GC s.c.x s.c.y s.c.q e=0:=by
   have K:(-4096<=EI s.c.q e+s.c.x/\EI s.c.q e+s.c.x<=4096)/\(-4096<=EK s.c.q e+s.c.y/\EK s.c.q e+s.c.y<=4096)/\0<=EM s.c.q e/\EM s.c.q e<=3:=by have a:(AV s.c e).x=EI s.c.q e+s.c.x:=rfl;have b:(AV s.c e).y=EK s.c.q e+s.c.y:=rfl;have c:(AV s.c e).q=EM s.c.q e:=rfl;rw[a,b,c]at u;omega
   unfold GC;rw[if_pos ⟨by unfold EC;rw[if_pos (by omega)],by omega⟩,if_pos];unfold EC;rw[if_pos (by omega)]
  rw[this]at f;simp at f
 .intro f;obtain⟨s,n,f⟩:=List.any_eq_true.1 f;obtain⟨v,o,f⟩:=List.any_eq_true.1 f;obtain⟨g,U⟩:=X.inSt n o;have V:((v.toNat:Nat):Int)=v:=by have:=g.1;omega
  have j:=(I.im v.toNat (by have:=g.1;have:=g.2;omega)).1;rw[V]at j;have Y:=X.vm w g;have Z:(BC p r).getD v.toNat AE.d=P v:=E v g;have hw:=PH hs g.1 g.2;rw[Z,Ut Y.1 (by omega)]at j;unfold NT at f;rw[j]at f;have:BE (P v) (AJ p.W p.H v)=s.c:=U;rw[this]at f;simp at f
theorem valid(X:StG p r L P B)(a:B<=4000):CO p r L=0:=by
 have h:=X.sk a;obtain⟨h1,b⟩:=X.places a;have hs:=X.hs;have hN:=CF hs;refine chk_ok h ?_ (λs d=> ?_) (g0g b X.N) (kd_cg hs b X.D)
 .rw[<-X.r0];exact(X.G.ok 0 ⟨Int.le_refl _,by omega⟩).1.1
 .have:=X.cQ d;unfold CD at this;exact⟨this.1,by show s.c.q<=255;omega⟩
end StG
def JD(x y:Cr):Bool:=decide (x.c<y.c)||(decide (x.c=y.c)&&decide (x.e<y.e))
theorem f1c(x y:Cr):JD x y=decide (BB (NC x) (NC y)<0):=by
 have:BB (NC x) (NC y)<0↔x.c<y.c\/x.c=y.c/\x.e<y.e:=by
  simp only[NC,BB,CY];repeat' split
  all_goals omega
 unfold JD;rw[Ls,Kd,K6,Jh,Jh,Jh,Jh];exact this.symm
theorem c60(x y:Cr):Io x.c x.e y.c y.e<0↔BB (NC x) (NC y)<0:=by
 simp only[NC,BB,CY,Io];repeat' split
 all_goals omega
structure Pas where
 a:Int
 b:Int
 K:Int
 C:Int
 deriving DecidableEq
def PK(p:Pt)(P:Int->Mv)(j:Nat):Option Pas:=
 if BH p.W p.H (uA j) ((j%3:Nat):Int)<uA j\/KE p.W p.H p.l j≠0 then none
 else some ⟨uA j,BH p.W p.H (uA j) ((j%3:Nat):Int),(GQ (DK (AR p P (uA j))) (DK (AR p P (BH p.W p.H (uA j) ((j%3:Nat):Int))))).1,(GQ (DK (AR p P (uA j))) (DK (AR p P (BH p.W p.H (uA j) ((j%3:Nat):Int))))).2⟩
def GL(p:Pt)(P:Int->Mv)(n:Nat):List Pas:=(List.range n).filterMap (PK p P)
def Vd(p:Pt)(P:Int->Mv)(over:Bool)(x:Pas):Cr:=⟨x.a,US p.W p.H x.a x.b,FdG.nkG P over x.a⟩
def OZ(K C:Int)(x:Pas):Bool:=decide (x.K=K)&&decide (x.C=C)
def MC(p:Pt)(P:Int->Mv)(K C:Int)(over:Bool):List Cr:=((GL p P (3*AG p.W p.H)).filter (OZ K C)).map (Vd p P over)
def NE(l:List Cr):List Cr:=Fo d0 JD 0 l.length l
def FK(p:Pt)(P:Int->Mv)(K C:Int)(over:Bool):Pt:=⟨p.W,p.H,NE (p.l++MC p P K C over)⟩
section
variable{p:Pt}{P:Int->Mv}{K C:Int}{over:Bool}
theorem d3p(f:BG p=0)(G:PlcG p P){j:Nat}(hj:j<3*AG p.W p.H){x:Pas}(h:PK p P j=some x):CL p (uA j) (uE j)/\AZ p (uA j) (uE j)=0/\uA j<Al p (uA j) (uE j)/\x=⟨uA j,Al p (uA j) (uE j),(GQ (DK (AR p P (uA j))) (DK (BO p P (uA j) (uE j)))).1,(GQ (DK (AR p P (uA j))) (DK (BO p P (uA j) (uE j)))).2⟩:=by
 have hs:=(FI f).1;have hN:=CF hs;have a:AQ p (uA j):=⟨by show (0:Int)<=((j/3:Nat):Int);omega,by show ((j/3:Nat):Int)<_;omega⟩
 unfold PK at h;split at h
 .cases h
 .rename_i g;rw[not_or,Classical.not_not]at g;obtain⟨i,c⟩:=g;have b:AU p.W p.H (uA j) (uE j)=0:=by
   by_cases q:AU p.W p.H (uA j) (uE j)=0
   .exact q
   .exfalso;have:BH p.W p.H (uA j) ((j%3:Nat):Int)= -1:=J8 q;rw[this]at i;have:=a.1;omega
  have k:BH p.W p.H (uA j) ((j%3:Nat):Int)=Al p (uA j) (uE j):=J7 b;have l:CL p (uA j) (uE j):=⟨a,MT,b⟩
  rw[d50 f b]at c;rw[k]at i h;obtain⟨q1,m,q3⟩:=OQ hs G a MT b c;have b9:Al p (uA j) (uE j)≠uA j:=λe=>by have:=(KG hs a MT b).2.1;have n:AF p.W p.H (uA j) (uE j)=uA j:=e;rw[n]at this;exact Vm (KF hs a) MT this.symm
  refine⟨l,c,Dx,?_⟩;have d:AR p P (Al p (uA j) (uE j))=BO p P (uA j) (uE j):=m;rw[d]at h;exact(Kf h).symm
theorem f9a(g:BG p=0)(G:PlcG p P){a e:Int}(b:CL p a e)(i:AZ p a e=0)(hl:a<Al p a e):∃j,j<3*AG p.W p.H/\uA j=a/\uE j=e/\PK p P j=some ⟨a,Al p a e,(GQ (DK (AR p P a)) (DK (BO p P a e))).1,(GQ (DK (AR p P a)) (DK (BO p P a e))).2⟩:=by
 have hs:=(FI g).1;have hN:=CF hs;have k:=b.1;unfold AQ at k;obtain⟨c,l⟩:=Wb k.1 (QT (q:=a%4) (e:=e));have ti:=@QT (a%4) e;have d:uE (3*a+DY (a%4) e).toNat=e:=by unfold uE;rw[c,l,TU Od b.2.1]
 refine⟨(3*a+DY (a%4) e).toNat,Dx,c,d,?_⟩;have n:AU p.W p.H (uA (3*a+DY (a%4) e).toNat) (uE (3*a+DY (a%4) e).toNat)=0:=by rw[c,d];exact b.2.2
 have m:=d50 g n;rw[c,d,i]at m;obtain⟨q1,o,q3⟩:=OQ hs G b.1 b.2.1 b.2.2 i;have r:BH p.W p.H a ((DY (a%4) e:Nat):Int)=Al p a e:=d6u b.2.1 b.2.2;have f:AR p P (Al p a e)=BO p P a e:=o;unfold PK;rw[c,l,r,J8 (by rw[m];omega),f]
theorem YZ(g:BG p=0)(G:PlcG p P){x:Pas}:x∈GL p P (3*AG p.W p.H)↔∃a e,CL p a e/\AZ p a e=0/\a<Al p a e/\x=⟨a,Al p a e,(GQ (DK (AR p P a)) (DK (BO p P a e))).1,(GQ (DK (AR p P a)) (DK (BO p P a e))).2⟩:=by
 unfold GL;rw[Na];constructor
 .rintro⟨j,b,h⟩;obtain⟨c,d,f,i⟩:=d3p g G (Ka.1 b) h;exact⟨uA j,uE j,c,d,f,i⟩
 .rintro⟨a,e,c,d,f,rfl⟩;obtain⟨j,b,_,_,h⟩:=f9a g G c d f;exact⟨j,Ka.2 b,h⟩
theorem c8m(f:BG p=0)(G:PlcG p P){c:Cr}:c∈MC p P K C over↔∃a e,CL p a e/\AZ p a e=0/\a<Al p a e/\KB p P K C a e/\c=⟨a,e,FdG.nkG P over a⟩:=by
 have hs:=(FI f).1;unfold MC;rw[Js];constructor
 .rintro⟨x,hx,rfl⟩;obtain⟨hx,d⟩:=Ku.1 hx;obtain⟨a,e,b,g,h,rfl⟩:=(YZ f G).1 hx;unfold OZ at d;rw[K6,Jh,Jh]at d;refine⟨a,e,b,g,h,Prod.ext d.1 d.2,?_⟩;unfold Vd;simp only;rw[c0a hs b.1 b.2.1 b.2.2 rfl]
 .rintro⟨a,e,b,g,h,d,rfl⟩;refine⟨⟨a,Al p a e,(GQ (DK (AR p P a)) (DK (BO p P a e))).1,(GQ (DK (AR p P a)) (DK (BO p P a e))).2⟩,Ku.2 ⟨(YZ f G).2 ⟨a,e,b,g,h,rfl⟩,?_⟩,?_⟩
  .have i:GQ (DK (AR p P a)) (DK (BO p P a e))=(K,C):=d;unfold OZ;rw[i];simp
  .unfold Vd;simp only;rw[c0a hs b.1 b.2.1 b.2.2 rfl]
theorem g0c{l:List Cr}(h:SR l):(l.map NC).Nodup:=by rw[List.Nodup,Kg];intro i j b a c e;rw[K8]at b a;rw[Mg,Mg]at e;have:=h i j c a;rw[J5,J5,J6 b,J6 a]at this;simp only[Kx]at this;rw[c60,e,VG]at this;omega
theorem nw_nd(b:BG p=0)(G:PlcG p P):((MC p P K C over).map NC).Nodup:=by unfold MC GL;rw[Mq,List.Nodup,L2];refine List.Pairwise.filter _ ?_;rw[List.pairwise_filterMap];refine List.Pairwise.imp_of_mem (λ{i j} f g k x hx y l e=> ?_) List.nodup_range;obtain⟨c,x2,x3,rfl⟩:=d3p b G (Ka.1 f) hx;obtain⟨a,y2,y3,rfl⟩:=d3p b G (Ka.1 g) l;have hs:=(FI b).1;simp only[Function.comp_def,NC,Vd,Ix]at e;rw[c0a hs c.1 c.2.1 c.2.2 rfl,c0a hs a.1 a.2.1 a.2.2 rfl]at e;have d:uA i=uA j:=e.1;have m:uE i=uE j:=e.2;have k1:i%3=DY (uA j%4) (uE j):=(WZ (q:=uA j%4) Od a.2.1 (i%3) Dx).1 (by rw[<-d];exact m);have k2:j%3=DY (uA j%4) (uE j):=(WZ (q:=uA j%4) Od a.2.1 (j%3) Dx).1 rfl;refine k ?_;rw[<-uMul i,<-uMul j,d,k1,k2]
theorem f0v(d:BG p=0)(G:PlcG p P){c:Cr}(f:c∈MC p P K C over):AQ p c.c/\(0<=c.e/\c.e<3)/\AU p.W p.H c.c c.e=0/\EA p.W p.H c.c c.e=c.c/\ET p.W p.H c.c c.e=c.e/\(c.k=1\/c.k=2)/\AZ p c.c c.e=0:=by
 obtain⟨a,e,b,g,h,ho,rfl⟩:=(c8m d G).1 f;refine⟨b.1,b.2.1,b.2.2,?_,?_,?_,g⟩
 .unfold EA;rw[J7 b.2.2];have i:a<AF p.W p.H a e:=h;exact Int.min_eq_left (Int.le_of_lt i)
 .unfold ET;rw[J7 b.2.2]
 .show FdG.nkG P over a=1\/FdG.nkG P over a=2;unfold FdG.nkG;split
  .exact .inr rfl
  .exact .inl rfl
theorem b6i(l:List Cr):(NE l).Perm l:=b4z l
theorem f8c(d:BG p=0)(h:∀c∈p.l,AD .u8 c.e)(G:PlcG p P):((p.l++MC p P K C over).map NC).Nodup:=by
 rw[Lq,Mm];refine⟨g0c (b8r d),nw_nd d G,λa i b j e=> ?_⟩;subst e;obtain⟨x,hx,rfl⟩:=Js.1 i;obtain⟨y,k,e⟩:=Js.1 j;obtain⟨c1,c2,g,m⟩:=c69 d h hx;obtain⟨d1,d2,d3,d4,d5,d6,f⟩:=f0v d G k;simp only[NC,Ix]at e;rw[e.1,e.2]at f;have n:FS (CR p.W p.H x.c x.e) x=true:=by unfold FS CR ET;rw[m,J7 g];simp
 rw[Qk d g hx n]at f;have:=Jx.1 (FI d).2.1 x hx;simp[LG,Qe,f]at this
theorem d7d(b:BG p=0)(f:∀c∈p.l,AD .u8 c.e)(G:PlcG p P):BG (FK p P K C over)=0/\∀c∈(FK p P K C over).l,AD .u8 c.e:=by
 obtain⟨hs,n,o,_⟩:=FI b;have r:=b6i (p.l++MC p P K C over);have mem:∀c,c∈(FK p P K C over).l↔c∈p.l\/c∈MC p P K C over:=λc=>by show c∈NE _↔_;rw[r.mem_iff,Jt]
 refine⟨?_,λc a=> ?_⟩
 .unfold BG;rw[J7 (show AP (FK p P K C over).W (FK p P K C over).H=0 from hs),J8,J8,J8]
  .intro h;obtain⟨i,s,h⟩:=Jp.1 h;have b8:=Ka.1 s;unfold OJ at h;rw[Jh]at h;have:=d2c (d:=d0) (lt:=JD) (key:=NC) f1c (f8c (K:=K) (C:=C) (over:=over) b f G) i (i+1) Dx (by show i+1<(FK p P K C over).l.length;omega);have t:=(c60 _ _).2 this;have h3:Io ((FK p P K C over).l.getD i d0).c ((FK p P K C over).l.getD i d0).e ((FK p P K C over).l.getD (i+1) d0).c ((FK p P K C over).l.getD (i+1) d0).e<0:=t;omega
  .intro h;obtain⟨c,a,h⟩:=Jp.1 h;rcases(mem c).1 a with a|a
   .exact Jx.1 o c a h
   .obtain⟨u,v,g,j,k,m,w⟩:=f0v b G a;have x:AU (FK p P K C over).W (FK p P K C over).H c.c c.e=0:=g;have y:EA (FK p P K C over).W (FK p P K C over).H c.c c.e=c.c:=j;have z:ET (FK p P K C over).W (FK p P K C over).H c.c c.e=c.e:=k;unfold PD at h;rw[x,y,z]at h;simp at h
  .intro h;obtain⟨c,a,h⟩:=Jp.1 h;rcases(mem c).1 a with a|a
   .exact Jx.1 n c a h
   .obtain⟨u,v,g,j,k,m,w⟩:=f0v b G a;unfold LG Qe at h;rcases m with q|q<;>(rw[q]at h;simp at h)
 .rcases(mem c).1 a with a|a
  .exact f c a
  .have:=(f0v b G a).2.1;exact⟨this.1,by show c.e<=255;omega⟩
theorem d47(hs:AP p.W p.H=0)(G:PlcG p P){i e:Int}(h:CL p i e)(g:AZ p i e=0):KB p P K C (Al p i e) e↔KB p P K C i e:=by obtain⟨q1,j,k⟩:=OQ hs G h.1 h.2.1 h.2.2 g;have d:AR p P (Al p i e)=BO p P i e:=j;have f:BO p P (Al p i e) e=AR p P i:=k;have b:=LA hs G h.1;have a:=Sk (t:=(P i).t) h.2.1;show GQ (DK (AR p P (Al p i e))) (DK (BO p P (Al p i e) e))=(K,C)↔GQ (DK (AR p P i)) (DK (BO p P i e))=(K,C);rw[d,f,c7z hs G h.1 h.2.1,d5v b a];have:=d5v (c:=AV (AR p P i) (Om (P i).t e)) (UM b a) a;rw[VQ b a,(d46 b a).1,(d46 b a).2]at this;rw[this]
theorem fd_K(b:BG p=0)(w:∀c∈p.l,AD .u8 c.e)(G:PlcG p P):FdK p (FK p P K C over) P K C (λi _=>FdG.nkG P over i):=by
 obtain⟨hs,y,hn,_⟩:=FI b;obtain⟨mt,gw⟩:=d7d (K:=K) (C:=C) (over:=over) b w G;have z:=b6i (p.l++MC p P K C over);have mem:∀c,c∈(FK p P K C over).l↔c∈p.l\/c∈MC p P K C over:=λc=>by show c∈NE _↔_;rw[z.mem_iff,Jt]
 refine⟨rfl,rfl,λi e m n d=> ?_,λi e=> ?_⟩
 .have o:AU (FK p P K C over).W (FK p P K C over).H i e=0:=d;have j:CL p i e:=⟨m,n,d⟩
  have r:CR p.W p.H i e=[min i (Al p i e),e]:=by unfold CR EA ET;rw[if_pos d,if_pos d]
  by_cases k:AZ p i e=0
  .rw[J8 (λq=>q k)];obtain⟨A,q2,q3⟩:=OQ hs G m n d k;have s:P (Al p i e)=P i:=A;by_cases g:KB p P K C i e
   .rw[J7 g];obtain⟨B,E⟩:=PN hs j;have nq:Al p i e≠i:=λq=>by
     have:=(KG hs m n d).2.1;have F:AF p.W p.H i e=i:=q;rw[F]at this;exact Vm (KF hs m) n this.symm
    have hx:∃x∈MC p P K C over,FS (CR p.W p.H i e) x=true/\x.k=FdG.nkG P over i:=by
     by_cases I:i<Al p i e
     .refine⟨⟨i,e,FdG.nkG P over i⟩,(c8m b G).2 ⟨i,e,j,k,I,g,rfl⟩,?_,rfl⟩;unfold FS;rw[r,Int.min_eq_left Dx];simp
     .refine⟨⟨Al p i e,e,FdG.nkG P over (Al p i e)⟩,(c8m b G).2 ⟨Al p i e,e,B,by rw[QG hs b j];exact k,by rw[E];omega,(d47 hs G j k).2 g,rfl⟩,?_,?_⟩
      .unfold FS;rw[r,Int.min_eq_right Dx];simp
      .show FdG.nkG P over (Al p i e)=_;unfold FdG.nkG;rw[s]
    obtain⟨x,J,L,t⟩:=hx;have:=Qk mt o ((mem x).2 (.inr J)) L;rw[this,t]
   .rw[J8 g];refine YM mt o ?_;show (FK p P K C over).l.any (FS (CR p.W p.H i e))=false;rw[Jx];intro x hx f;rcases(mem x).1 hx with hx|hx
    .have u:=Qk b d hx f;rw[k]at u;have:=Jx.1 y x hx;simp[LG,Qe,<-u]at this
    .obtain⟨a,e',u,h2,h3,v,rfl⟩:=(c8m b G).1 hx;unfold FS at f;rw[r,Jh]at f;simp only[Ix]at f;obtain⟨j9,rfl⟩:=f;have M:i=a\/Al p i e=a:=Dx;rcases M with rfl|N
     .exact g v
     .rw[<-N]at v;exact g ((d47 hs G j k).1 v)
  .rw[J7 k];obtain⟨x,hx,f⟩:=c59 ((WN b d).2 k);rw[Qk b d hx f];exact Qk mt o ((mem x).2 (.inl hx)) f
 .show FdG.nkG P over i≠0;unfold FdG.nkG;split<;>omega
end
def CH:RT Pas:=⟨4,λx=>[.int .i64 x.a,.int .i64 x.b,.int .u8 x.K,.int .i64 x.C],λl=>match l with
 | [.int _ a,.int _ b,.int _ c,.int _ d]=>⟨a,b,c,d⟩
 |_=>⟨0,0,0,0⟩,⟨0,0,0,0⟩,λ_=>rfl⟩
section
variable{p:Pt}{r:Mv}{P:Int->Mv}
theorem f1a{j:Nat}(h:PK p P j=none):GL p P (j+1)=GL p P j:=by unfold GL;rw[List.range_succ,List.filterMap_append];simp[h]
theorem f29{j:Nat}{x:Pas}(h:PK p P j=some x):GL p P (j+1)=GL p P j++[x]:=by unfold GL;rw[List.range_succ,List.filterMap_append];simp[h]
theorem c43(n:Nat):(GL p P n).length<=n:=by unfold GL;refine Kz (List.length_filterMap_le _ _) ?_;simp
theorem f1y{a k:Nat}(hk:k<3):uA (3*a+k)=a/\(3*a+k)%3=k:=by
 constructor
 .show (((3*a+k)/3:Nat):Int)=a;omega
 .omega
theorem pas_no{a k:Nat}(b:k<3)(h:BH p.W p.H a k<a\/¬KE p.W p.H p.l (3*a+k)=0):PK p P (3*a+k)=none:=by unfold PK;rw[(f1y b).1,(f1y b).2,J7 h]
theorem g1b{a k:Nat}(b:k<3)(h:¬BH p.W p.H a k<a/\KE p.W p.H p.l (3*a+k)=0):PK p P (3*a+k)=some ⟨a,BH p.W p.H a k,(GQ (DK (AR p P a)) (DK (AR p P (BH p.W p.H a k)))).1,(GQ (DK (AR p P a)) (DK (AR p P (BH p.W p.H a k)))).2⟩:=by unfold PK;rw[(f1y b).1,(f1y b).2,J8 Dx]
theorem d3k{j:Nat}(a:j<3*AG p.W p.H):(JA p).getD j Pn.d=KE p.W p.H p.l j:=by unfold JA;rw[J5,Jz,Nm a];rfl
end
theorem sq_le{t X Y:Int}(hx:0<=X/\X<=300)(hy:0<=Y/\Y<=300):(-400<=(sq t X Y).1/\(sq t X Y).1<=400)/\ -400<=(sq t X Y).2/\(sq t X Y).2<=400:=by
 unfold sq;repeat' split
 all_goals(dsimp only;omega)
theorem f4z{p:Pt}{P:Int->Mv}(hs:AP p.W p.H=0){a:Int}(b:AQ p a):DK (AR p P a)=((sq (P a).t (a/4%p.W) (a/4/p.W)).1+(P a).x,(sq (P a).t (a/4%p.W) (a/4/p.W)).2+(P a).y,tq (P a).t (a%4)):=by unfold AR DK BE;rw[JJ hs b.1 b.2]
def rPs28(p:Pt)(r:Mv):SV:=.sl 4 (GL p (AL p r) (3*AG p.W p.H)).length (CH.row (GL p (AL p r) (3*AG p.W p.H))) none
def Tg:AK
 | [x]=>(MN x).map λq=>(q.1/\Bo q.2.1 q.2.2.1=0,rPs28 q.2.1 q.2.2.1)
 |_=>none
def FPs28:Fam:=⟨Pt×Mv×List Stk,λ(p,r,L)=>[.agg (EO p r L)],λ(p,r,L)=>(prOK p r/\EG L)/\Bo p r=0,λ(p,r,_)=>rPs28 p r⟩
def psEn(p:Pt)(r:Mv)(a:List Entry):List Entry:=a++[⟨6,none,.osl 1⟩,⟨5,none,.sl 1 (JA p).length (Pn.row (JA p)) none⟩,⟨3,none,.sl 3 (BC p r).length (AE.row (BC p r)) none⟩,⟨1,none,.own 0 0⟩]
def XT(p:Pt)(r:Mv)(L:List Stk)(n:Nat):List Blk:=[.cells 34 (EO p r L),.row 142 4 (GL p (AL p r) n).length (CH.row (GL p (AL p r) n)) none]
def IPs28:Pt×Mv×List Stk->Nat->Option Inv
 |(p,r,L),5=>some {β:=Nat,ok:=λa=>a<=AG p.W p.H,st:=λa=>⟨psEn p r [⟨7,none,.int .i64 a⟩],XT p r L (3*a)⟩,μ:=λa=>AG p.W p.H-a,nl:=[.slot 6 142 4],sub:=λa=>some fun
  |8=>some {β:=Nat,ok:=λk=>k<=3/\a<AG p.W p.H,st:=λk=>⟨psEn p r [⟨8,none,.int .i64 k⟩,⟨7,none,.int .i64 a⟩],XT p r L (3*a+k)⟩,μ:=λk=>3-k}
  |_=>none}
 |_,_=>none
theorem f50:PF 66 Tg:=by
 refine Ym {l:=[(14,Vo),(40,Ws),(41,Tl),(43,SY),(18,Yp),(94,d82)]} ⟨by simpa using⟨f8x,pTab,f0g,Wu,pImg,pBe28⟩,Dz,Dz⟩ FPs28 IPs28 Tg ?_ ?_ Tryz.func66 Dy Dy Dy ?_
 .intro args pre s h hp;unfold Tg at h;split at h
  .simp only[Ih]at h;obtain⟨⟨q,p,r,L⟩,hx,rfl,rfl⟩:=h;obtain⟨h1,h2,h3⟩:=QW hx hp.1;exact Du
  .cases h
 .exact By
 .rintro⟨p,r,L⟩ ⟨⟨⟨⟨K,M⟩,w⟩,hL⟩,o⟩;obtain⟨z,hmv,_,_⟩:=Sg o;obtain⟨G,G0,v⟩:=f4b w.1 o;have Q:=Oy w.1 o;have fk:=Q.pl;have hs:=(FI z).1;have hN:=CF hs;have Y9:=b4g p;refine X0a _ ?_;(repeat' first|constructor|intro h)<;>refine Lm ?_
  all_goals(try simp only[CI,Jo,JS]at*)
  all_goals(try first
   |exact⟨⟨⟨⟨Do _,K⟩,M⟩,w⟩,o⟩
   |exact⟨⟨Do _,K⟩,M,z⟩)
  refine⟨(0:Nat),Jj _,?_,?_⟩
  .exact X1b
  .intro a N;replace N:a<=AG p.W p.H:=N;refine X0a _ ?_;(repeat' first|constructor|intro h)<;>refine Lm ?_
   all_goals(try simp only[If]at*)
   all_goals(try first|exact Ak)
   .have A:a<AG p.W p.H:=Dx;refine⟨(0:Nat),⟨by show 0<=3;omega,A⟩,?_,?_⟩
    .exact X1d
    .intro k B;replace B:k<=3/\a<AG p.W p.H:=B;obtain⟨k1,_⟩:=B;have f:AQ p (a:Int):=⟨Dx,Dx⟩
     have hj:k<3->3*a+k<3*AG p.W p.H:=λh=>Dx;have S:(3*(a:Int)+(k:Int)).toNat=3*a+k:=Dx;have O:=v a f;have T:=Qi O;have hxa:=PX O;unfold EE at T;have hpls:∀u,AQ p u->(BC p r).getD u.toNat AE.d=AL p r u:=λu _=>rfl;have hw:=HB hs;have C:∀u,AQ p u->(0<=u/4%p.W/\u/4%p.W<=300)/\(0<=u/4/p.W/\u/4/p.W<=300)/\0<=u%4/\u%4<=3:=λu b=>by have:=PH hs b.1 b.2;rw[JJ hs b.1 b.2]at this;exact this
     have U:(BC p r).getD a AE.d=AL p r a:=by unfold AL;rw[Int.toNat_natCast]
     have E:(BC p r).getD (BH p.W p.H a k).toNat AE.d=AL p r (BH p.W p.H a k):=rfl;have g:∀u,AQ p u->((0<=(AL p r u).t/\(AL p r u).t<=7)/\((-50000<=(AL p r u).x/\(AL p r u).x<=50000)/\ -50000<=(AL p r u).y/\(AL p r u).y<=50000)/\(-30000<=u/4%p.W/\u/4%p.W<=30000)/\(-30000<=u/4/p.W/\u/4/p.W<=30000)/\0<=u%4/\u%4<=3)/\(-30000<=(sq (AL p r u).t (u/4%p.W) (u/4/p.W)).1+(AL p r u).x/\(sq (AL p r u).t (u/4%p.W) (u/4/p.W)).1+(AL p r u).x<=30000)/\(-30000<=(sq (AL p r u).t (u/4%p.W) (u/4/p.W)).2+(AL p r u).y/\(sq (AL p r u).t (u/4%p.W) (u/4/p.W)).2+(AL p r u).y<=30000)/\0<=tq (AL p r u).t (u%4)/\tq (AL p r u).t (u%4)<=3:=λu b=>by have h1:=Qi (v u b);have h2:=PX (v u b);have h3:=C u b;have h4:=@sq_le (AL p r u).t _ _ h3.1 h3.2.1;have V:=f23 (FT (v u b)) h3.2.2;unfold EE at h1;refine⟨⟨h1,⟨Dx,Dx⟩,Dx,Dx,Dx⟩,Dx,Dx,V⟩
     have m:=g a f;have F:k<3->¬BH p.W p.H a k<a->AQ p (BH p.W p.H a k):=λh1 h2=>(pl_nb z f h1 Dx).2.2.1;refine X0a _ ?_;(repeat' first|constructor|intro h)<;>refine Lm ?_
     all_goals(try simp only[If,S,U,E,Iq,Ig]at*)
     all_goals(try first
      |exact Ak
      |exact⟨hs,f.1,f.2⟩
      |(intro _;exact⟨Dx,Dx⟩)
      |exact An)
     .refine⟨k+1,⟨Er,A⟩,Es,?_⟩;have h3:k<3:=Dx;rw[d3k (hj h3)]at h;have e:=f1a (P:=AL p r) (pas_no h3 h);rw[Lk]at e;dsimp only[XT];rw[e];exact X1f
     all_goals
      first
       |(have h3:k<3:=by omega
         have I:=F h3 h.1;have J:=I;unfold AQ at J;have n:=g _ I;first
          |exact Az
          |exact m.1
          |exact n.1
          |exact As
          |exact⟨m.2,n.2⟩
          |(have:=@c43 p (AL p r) (3*a+k);refine⟨Dx,?_⟩;exact LP Dy Dx)
          |(rw[d3k (hj h3)]at h
            refine⟨k+1,⟨Er,A⟩,Es,?_⟩;have e:=f29 (P:=AL p r) (g1b h3 h);rw[f4z hs f,f4z hs I,Lk]at e;dsimp only[XT];rw[e,K5,M2];all_goals refine X0a _ ?_;(repeat' first|constructor|intro h)<;>refine Lm ?_
            all_goals first|exact Aq|exact WA (R:=CH) rfl|skip))
       |(have h3:k=3:=by omega
         subst h3;refine⟨a+1,by show a+1<=_;omega,by show AG p.W p.H-(a+1)<AG p.W p.H-a;omega,?_⟩;have e:3*(a+1)=3*a+3:=Dx;dsimp only[XT];rw[e];all_goals refine X0a _ ?_;(repeat' first|constructor|intro h)<;>refine Lm ?_
         all_goals first|exact Aq|skip)
       |skip
   all_goals
    have X:a=AG p.W p.H:=Dx;subst X;first|exact A6|skip
theorem pPs28:PS 66 Tg:=f50.1
theorem af_lt(x y:Stk):af28 (x.c.x,x.c.y,x.c.q) (y.c.x,y.c.y,y.c.q)=1↔AW y x=true:=by
 rw[c5d,Jh];have:BB (BP y.c) (BP x.c)<0↔y.c.y<x.c.y\/x.c.y=y.c.y/\(y.c.x<x.c.x\/x.c.x=y.c.x/\y.c.q<x.c.q):=by
  simp only[BP,BB,CY];repeat' split
  all_goals omega
 rw[this];unfold af28;dsimp only;split<;>simp_all
def f28:HK:=λa own=>match a,own with
 | [x],[]=>(LI x).map λq=>⟨q.1,.osl 0,[.row CG 4 q.2.length (AA.row (NJ q.2)) none],[]⟩
 |_,_=>none
def FHSo28:FamH:=⟨List Stk,λL=>[FN L],λ_=>[],λL=>FX L,λ_=>.osl 0,λL=>[.row CG 4 L.length (AA.row (NJ L)) none],[]⟩
def soSt(L M:List Stk)(a:List Entry):List Entry×List Blk:=(a++[⟨3,none,.osl 0⟩],[.row CG 4 L.length (AA.row M) none])
def ISo28(L:List Stk):Nat->Option Inv
 |3=>some {β:=Nat×List Stk,ok:=λ(i,M)=>1<=i/\i<=L.length+1/\Sub M L/\HY AA.d AW 0 (L.length-i) i M=NJ L,st:=λ(i,M)=>⟨(soSt L M [⟨4,none,.int .i64 i⟩]).1,(soSt L M []).2⟩,μ:=λ(i,_)=>L.length-i,sub:=λ(i,_)=>some fun
  |6=>some {β:=Nat×List Stk,ok:=λ(j,M)=>j<=i/\i<L.length/\Sub M L/\HY AA.d AW 0 (L.length-(i+1)) (i+1) (FZ AA.d AW 0 j M)=NJ L,st:=λ(j,M)=>⟨(soSt L M [⟨5,none,.int .i64 j⟩,⟨4,none,.int .i64 i⟩]).1,(soSt L M []).2⟩,μ:=λ(j,_)=>j}
  |_=>none}
 |_=>none
theorem pHSo28:HS 68 f28:=by
 refine FU {l:=[(95,f0d)]} ⟨by simpa using pAf28,Dz,Dz⟩ FHSo28 ISo28 f28 ?_ ?_ ?_ Tryz.func68 Dy Dy Dy ?_
 .intro args own r h b;unfold f28 at h;split at h
  .simp only[Jc]at h;obtain⟨⟨q,L⟩,hx,rfl⟩:=h;obtain⟨v,w⟩:=Py hx b;exact⟨L,⟨v,Ja⟩,rfl,Ja,w,rfl,rfl,rfl⟩
  .cases h
 .exact By
 .exact C5
 .intro(L:List Stk) μ b;replace b:FX L:=b;have hL:=b.1;refine X0b _ ?_;(repeat' first|constructor|intro h)<;>refine Lm ?_
  all_goals(try simp only[]at*)
  all_goals(try first
   |exact B8)
  all_goals(try(refine⟨Dx,?_⟩;exact LP Dy Dx))
  refine⟨(1,L),⟨Jf _,by show 1<=L.length+1;omega,Sub.refl L,rfl⟩,?_,?_⟩
  .exact X2c
  .rintro⟨i,M⟩ c;replace c:1<=i/\i<=L.length+1/\Sub M L/\HY AA.d AW 0 (L.length-i) i M=NJ L:=c;obtain⟨i1,i2,m,i4⟩:=c;refine X0b _ ?_;(repeat' first|constructor|intro h)<;>refine Lm ?_
   all_goals(try simp only[If]at*)
   all_goals(try first
    |exact B8)
   .have x:i<L.length:=Dx;refine⟨(i,M),⟨Jf _,x,m,?_⟩,?_,?_⟩
    .exact Dv
    .exact X2b
    .rintro⟨j,K⟩ f;replace f:j<=i/\i<L.length/\Sub K L/\HY AA.d AW 0 (L.length-(i+1)) (i+1) (FZ AA.d AW 0 j K)=NJ L:=f;obtain⟨j1,y,g,n⟩:=f;have hK:=g.1;have o:((j:Int)-1).toNat=j-1:=Dx;have s:=af_lt (K.getD (j-1) AA.d) (K.getD j AA.d);by_cases k:0<j/\AW (K.getD j AA.d) (K.getD (j-1) AA.d)=true
     .obtain⟨z,t⟩:=k;have A:=s.2 t;refine X0b _ ?_;(repeat' first|constructor|intro h)<;>refine Lm ?_
      all_goals(try simp only[If,Ik,o]at*)
      all_goals(try first
       |omega
       |exact Bw
       |(exfalso;rcases h with h|h;omega;exact h A)
       |exact Af
       |(show j<L.length;omega)
       |(show j-1<L.length;omega))
      have hs:=RA (d:=AA.d) (l:=K) (i:=j-1) (j:=j) Dx Dx;have u:Eo AA.d K (j-1) j=Eo AA.d K j (j-1):=by unfold Eo;exact List.set_comm _ _ Dx
      all_goals
       refine⟨(j-1,Eo AA.d K (j-1) j),⟨by show j-1<=i;omega,y,hs.trans g,?_⟩,by show j-1<j;omega,?_⟩
       .rw[<-n,c1g z t,u]
       .refine X0b _ ?_;(repeat' first|constructor|intro h)<;>refine Lm ?_
        all_goals first
         |exact Bg
         |exact Bn
         |(intro q _;left;rw[u];exact d4e Dx Dx)
         |skip
     .refine X0b _ ?_;(repeat' first|constructor|intro h)<;>refine Lm ?_
      all_goals(try simp only[If,Ik,o]at*)
      all_goals(try first
       |omega
       |(exfalso;exact k ⟨Dx,s.1 h.2⟩)
       |exact Af)
      have e:FZ AA.d AW 0 j K=K:=b7h k;all_goals
       refine⟨(i+1,K),⟨by show 1<=i+1;omega,by show i+1<=L.length+1;omega,g,by rw[<-n,e]⟩,Gp,?_⟩;all_goals exact X2c
   all_goals
    have e:HY AA.d AW 0 (L.length-i) i M=M:=by rw[show L.length-i=0 from Dx];rfl
    have B:NJ L=M:=by rw[<-i4,e]
    rw[B];first|exact m.1.symm|exact A5|rfl|skip
theorem f2g(L:List Stk):(NJ L).length=L.length:=(c1d L).length_eq
abbrev VR:TypeId:=51
theorem d0eq:BK.d=d0:=rfl
theorem ov_cr(b:Bool)(L:List Cr)(i:Nat)(x y:Cr):over (Bl b (BK.sv x) (BK.row L i)) 0 (BK.sv y)=BK.sv y:=by cases b<;>rfl
theorem ov_cr0(L:List Cr)(i:Nat)(y:Cr):over (BK.row L i) 0 (BK.sv y)=BK.sv y:=rfl
theorem f3p{L:List Cr}{i j q:Nat}(hi:i<L.length)(c:j<L.length):
 Bl (decide (q=j)) (over (Bl (decide (j=i)) (over (BK.row L i) 0 (BK.sv (L.getD j BK.d))) (BK.row L j)) 0 (BK.sv (L.getD i BK.d))) (Bl (decide (q=i)) (over (BK.row L i) 0 (BK.sv (L.getD j BK.d))) (BK.row L q))=BK.row (Eo BK.d L i j) q:=by
 rw[ov_cr0,ov_cr];have e:BK.row (Eo BK.d L i j) q=BK.sv ((Eo BK.d L i j).getD q BK.d):=rfl;rw[e,b6p hi c];by_cases b:q=j
 .rw[J7 b,Jr b];by_cases a:q=i
  .rw[Jr a];rfl
  .rw[Jq a];rfl
 .rw[J8 b,Jq b];by_cases a:q=i
  .rw[J7 a,Jr a];rfl
  .rw[J8 a,Jq a];rfl
theorem f1s{j:Nat}{M:List Cr}(b:0<j)(a:JD (M.getD j d0) (M.getD (j-1) d0)=true):FZ d0 JD 0 j M=FZ d0 JD 0 (j-1) (Eo d0 M j (j-1)):=by
 obtain⟨k,rfl⟩:∃k,j=k+1:=⟨j-1,Dx⟩
 simp only[Nr]at a⊢;rw[FZ,J7 ⟨b,a⟩]
theorem d6e{j:Nat}{M:List Cr}(h:¬(0<j/\JD (M.getD j d0) (M.getD (j-1) d0)=true)):FZ d0 JD 0 j M=M:=by
 cases j with
 |zero=>rfl
 |succ k=>
  simp only[Nr]at h;rw[FZ,J8 h]
theorem d8c(x y:Cr):JD y x=true↔(y.c<x.c\/(x.c=y.c/\y.e<x.e)):=by
 unfold JD;rw[Kd,K6,Jh,Jh,Jh];constructor
 .rintro(h|⟨a,b⟩)
  .exact .inl h
  .exact .inr ⟨a.symm,b⟩
 .rintro(h|⟨a,b⟩)
  .exact .inl h
  .exact .inr ⟨a.symm,b⟩
def d9x:HK:=λa own=>match a,own with
 | [.osl 0],[.row T 3 n g _]=>if T=VR then some ⟨BK.isL n g/\n<=1000000,.osl 0,[.row VR 3 (BK.lst n g).length (BK.row (NE (BK.lst n g))) none],[]⟩else none
 |_,_=>none
def FOr28:FamH:=⟨List Cr,λ_=>[.osl 0],λl=>[.row VR 3 l.length (BK.row l) none],λl=>l.length<=1000000,λ_=>.osl 0,λl=>[.row VR 3 l.length (BK.row (NE l)) none],[]⟩
def IOr28(L:List Cr):Nat->Option Inv
 |2=>some {β:=Nat×List Cr,ok:=λ(i,M)=>1<=i/\i<=L.length+1/\Sub M L/\HY d0 JD 0 (L.length-i) i M=NE L,st:=λ(i,M)=>⟨[⟨3,none,.int .i64 i⟩,⟨0,none,.osl 0⟩],[.row VR 3 L.length (BK.row M) none]⟩,μ:=λ(i,_)=>L.length-i,sub:=λ(i,_)=>some fun
  |5=>some {β:=Nat×List Cr,ok:=λ(j,M)=>j<=i/\i<L.length/\Sub M L/\HY d0 JD 0 (L.length-(i+1)) (i+1) (FZ d0 JD 0 j M)=NE L,st:=λ(j,M)=>⟨[⟨4,none,.int .i64 j⟩,⟨3,none,.int .i64 i⟩,⟨0,none,.osl 0⟩],[.row VR 3 L.length (BK.row M) none]⟩,μ:=λ(j,_)=>j}
  |_=>none}
 |_=>none
theorem pOr28:HS 69 d9x:=by
 refine FU {} ⟨Dz,Dz,Dz⟩ FOr28 IOr28 d9x ?_ ?_ ?_ Tryz.func69 Dy Dy Dy ?_
 .intro args own r h b;unfold d9x at h;split at h
  .rename_i T n g c;split at h
   .rename_i y;subst y;cases h;exact⟨BK.lst n g,⟨E6,Ja⟩,rfl,⟨⟨Eg,(RT.lst_length BK n g).symm,Ja,RT.row_isL BK b.1⟩,Ja⟩,by simp only[FOr28,RT.lst_length];exact b.2,rfl,rfl,rfl⟩
   .cases h
  .cases h
 .exact By
 .exact C3
 .intro(L:List Cr) μ b;replace b:L.length<=1000000:=b;refine X0b _ ?_;(repeat' first|constructor|intro h)<;>refine Lm ?_
  all_goals(try(simp only[];omega))
  refine⟨(1,L),⟨Jf _,by show 1<=L.length+1;omega,Sub.refl L,rfl⟩,?_,?_⟩
  .exact X2c
  .rintro⟨i,M⟩ f;replace f:1<=i/\i<=L.length+1/\Sub M L/\HY d0 JD 0 (L.length-i) i M=NE L:=f;obtain⟨i1,i2,s,i4⟩:=f;refine X0b _ ?_;(repeat' first|constructor|intro h)<;>refine Lm ?_
   all_goals(try simp only[If]at*)
   all_goals(try first
    |exact B8)
   .have z:i<L.length:=Dx;refine⟨(i,M),⟨Jf _,z,s,?_⟩,?_,?_⟩
    .exact Dv
    .exact X2b
    .rintro⟨j,K⟩ k;replace k:j<=i/\i<L.length/\Sub K L/\HY d0 JD 0 (L.length-(i+1)) (i+1) (FZ d0 JD 0 j K)=NE L:=k;obtain⟨j1,A,m,t⟩:=k;have hK:=m.1;have u:((j:Int)-1).toNat=j-1:=Dx;have v:=d8c (K.getD (j-1) d0) (K.getD j d0);by_cases o:0<j/\JD (K.getD j d0) (K.getD (j-1) d0)=true
     .obtain⟨B,w⟩:=o;have C:=v.1 w;refine X0b _ ?_;(repeat' first|constructor|intro h)<;>refine Lm ?_
      all_goals(try simp only[If,Ik,Iq,u,d0eq]at*)
      all_goals(try first
       |omega
       |exact Bw
       |(exfalso;rcases h with h|h;omega;exact h C)
       |exact Af
       |(show j<L.length;omega)
       |(show j-1<L.length;omega))
      have hs:=RA (d:=d0) (l:=K) (i:=j-1) (j:=j) Dx Dx;have x:Eo d0 K (j-1) j=Eo d0 K j (j-1):=by unfold Eo;exact List.set_comm _ _ Dx
      all_goals
       refine⟨(j-1,Eo d0 K (j-1) j),⟨by show j-1<=i;omega,A,hs.trans m,?_⟩,by show j-1<j;omega,?_⟩
       .rw[<-t,f1s B w,x]
       .refine X0b _ ?_;(repeat' first|constructor|intro h)<;>refine Lm ?_
        all_goals first
         |exact Bg
         |(intro q _;left;exact f3p Dx Dx)
         |(intro q _;left;rw[x];exact f3p Dx Dx)
         |skip
     .refine X0b _ ?_;(repeat' first|constructor|intro h)<;>refine Lm ?_
      all_goals(try simp only[If,Ik,Iq,u,d0eq]at*)
      all_goals(try first
       |omega
       |(exfalso;exact o ⟨Dx,v.2 h.2⟩)
       |exact Af)
      have e:FZ d0 JD 0 j K=K:=d6e o;all_goals
       refine⟨(i+1,K),⟨by show 1<=i+1;omega,by show i+1<=L.length+1;omega,m,by rw[<-t,e]⟩,Gp,?_⟩;all_goals exact X2c
   all_goals
    have e:HY d0 JD 0 (L.length-i) i M=M:=by rw[show L.length-i=0 from Dx];rfl
    have E:NE L=M:=by rw[<-i4,e]
    rw[E];first|exact s.1.symm|exact A5|rfl|skip
def YE(p:Pt)(P:Int->Mv)(K C:Int):Prop:=∃a e,CL p a e/\AZ p a e=0/\KB p P K C a e
section
variable{p:Pt}{r:Mv}{L:List Stk}{P:Int->Mv}{B K C sd:Int}
theorem ci_K{c:Cl}{e:Int}(a:CD c)(b:0<=e/\e<3):1<=DB c.q e/\DB c.q e<=4:=by obtain⟨X,Y,Q⟩:=c;rcases EW a with h|h|h|h<;>rcases GS b with rfl|rfl|rfl<;>(simp only at h;subst h;simp[DB,Hl,tb])
theorem ref_bd{c d:Cl}{e:Int}(a:CD c)(b:0<=e/\e<3)(f:(-B<=c.x/\c.x<=B)/\ -B<=c.y/\c.y<=B)(g:(-B<=d.x/\d.x<=B)/\ -B<=d.y/\d.y<=B):(-(3*B+2)<=(BE (BJ (DB c.q e) (DF c.x c.y c.q e)) d).x/\(BE (BJ (DB c.q e) (DF c.x c.y c.q e)) d).x<=3*B+2)/\ -(3*B+2)<=(BE (BJ (DB c.q e) (DF c.x c.y c.q e)) d).y/\(BE (BJ (DB c.q e) (DF c.x c.y c.q e)) d).y<=3*B+2:=by obtain⟨X,Y,Q⟩:=c;obtain⟨Z,W,R⟩:=d;rcases EW a with h|h|h|h<;>rcases GS b with rfl|rfl|rfl<;>(simp only at h f g;subst h;simp[BJ,HH,DB,DF,Hl,JU,BE,sq,tb];omega)
theorem f9g{over:Bool}(d:1<=K/\K<=4)(a:sd=0\/sd=1)(f:DC L)(g:∀s∈L,CD s.c)(i:∀s∈L,s.l≠[]):AY (JW over K C sd L)=EN (AY L) K C sd over:=by
 obtain⟨j,h2,k,h4⟩:=@f4m over K C sd L d a f g i;funext c;by_cases b:CD c
 .exact j c b
 .have m:EN (AY L) K C sd over c=[]:=by unfold EN;rw[if_neg (λh=>b h.1)]
  rw[m];rcases RC (JW over K C sd L) c with⟨s,hs,e⟩|h
  .exact absurd (e▸(k s hs).2) b
  .exact h
theorem StG.fold(X:StG p r L P B)(j:∀c∈p.l,AD .u8 c.e)(q:YE p P K C)(b:sd=0\/sd=1)(over:Bool):(1<=K/\K<=4)/\StG (FK p P K C over) (FD p P K C sd 0) (JW over K C sd L) (FD p P K C sd) (3*B+2):=by
 have hs:=X.hs;obtain⟨a,e,d,ka,u⟩:=q;have k:=LA hs X.G d.1;have m:=Sk (t:=(P a).t) d.2.1;obtain⟨n,v⟩:=(YG hs X.G d.1 d.2.1).1 u;have f:1<=K/\K<=4:=by rw[<-n];exact ci_K k m
 obtain⟨mt,gw⟩:=d7d (K:=K) (C:=C) (over:=over) X.hp j X.G;have D:FdG p (FK p P K C over) P (AY L) K C sd (λi _=>FdG.nkG P over i):=⟨hs,X.hp,X.G,X.S,f,b,fd_K X.hp j X.G⟩
 obtain⟨f1,f2,w,x⟩:=@f4m over K C sd L f b X.cells (λs h=>X.cQ h) X.ne;have g:=@f9g L K C sd over f b X.cells (λs h=>X.cQ h) X.ne;refine⟨f,mt,D.G',rfl,λi y=> ?_,x,λs h=>(w s h).1,?_,?_,?_⟩
 .have o:AQ p i:=y;have z:=X.bd a d.1;have A:=X.bd i o;have:=ref_bd (B:=B) k m z A;rw[n,v]at this;have E:=Vj (p':=FK p P K C over) (K:=K) (C:=C) (sd:=sd) hs X.G o rfl rfl;rw[E];split
  .exact this
  .omega
 .rw[g];exact D.S' over
 .rw[g];exact D.nc mt X.N over
 .rw[g];exact D.kinds over (λi e _ _=>rfl) X.D
end
def CJ(W H:Int):List Stk:=(List.range (AG W H)).map λi:Nat=>⟨AJ W H (i:Int),[(i:Int)]⟩
theorem g1m{W H:Int}(hs:AP W H=0){i j:Int}(d:0<=i)(h:i<j)(e:j<4*W*H):BB (BP (AJ W H i)) (BP (AJ W H j))<0:=by
 have hw:=HB hs;rw[JJ hs d Dx,JJ hs Dx e];simp only[BP,BB,CY];have c:=Mw (i/4) W;have e2:=Mw (j/4) W;have m1:=M4 (i/4) (b:=W) Dx;have m2:=M4 (j/4) (b:=W) Dx;have n1:=Mc (i/4) (b:=W) Dx;have n2:=Mc (j/4) (b:=W) Dx;have f:i/4<=j/4:=Dx;have hy:i/4/W<=j/4/W:=Int.ediv_le_ediv Dx f;by_cases q:i/4/W=j/4/W
 .rw[J7 q];have hx:i/4%W<=j/4%W:=by
   rw[q]at c;omega
  by_cases a:i/4%W=j/4%W
  .rw[J7 a];have:i/4=j/4:=by
    rw[q,a]at c;omega
   have:i%4<j%4:=Dx;rw[J8 Dx,J7 this];decide
  .rw[J8 a,J7 Dx];decide
 .rw[J8 q,J7 Dx];decide
theorem d3q{c:Cl}(a:CD c):BE DA c=c:=by obtain⟨x,y,q⟩:=c;rcases EW a with h|h|h|h<;>(simp only at h;subst h;simp[BE,DA,sq,tq,tb])
theorem d2h{W H B:Int}(hs:AP W H=0)(hB:W<=B+1/\H<=B+1):StG ⟨W,H,[]⟩ DA (CJ W H) (λ_=>DA) B:=by
 have hN:=CF hs;have z:BG ⟨W,H,[]⟩=0:=by unfold BG;rw[J7 (show AP W H=0 from hs)];simp
 have J:∀i e,AU W H i e=0->AZ ⟨W,H,[]⟩ i e=0:=λi e t=>YM (p:=⟨W,H,[]⟩) z t rfl;have u:∀i,AQ ⟨W,H,[]⟩ i->AR ⟨W,H,[]⟩ (λ_=>DA) i=AJ W H i:=λi f=>d3q (KF (p:=⟨W,H,[]⟩) hs f);have A:∀i:Nat,i<AG W H->(CJ W H).getD i AA.d=⟨AJ W H i,[(i:Int)]⟩:=λi f=>by unfold CJ;simp[f]
 have K:(CJ W H).length=AG W H:=by unfold CJ;simp
 have lt:∀i j,i<j->j<(CJ W H).length->BB (BP ((CJ W H).getD i AA.d).c) (BP ((CJ W H).getD j AA.d).c)<0:=λi j g o=>by rw[K]at o;rw[A i Dx,A j o];exact g1m hs Dx Dx Dx
 have w:=c92 lt;have mm:∀s∈CJ W H,∃i:Nat,i<AG W H/\s=⟨AJ W H i,[(i:Int)]⟩:=λs hs'=>by unfold CJ at hs';obtain⟨i,f,rfl⟩:=Js.1 hs';exact⟨i,Ka.1 f,rfl⟩
 have one:∀c,(AY (CJ W H) c).length<=1:=λc=>by
  rcases RC (CJ W H) c with⟨s,g,rfl⟩|h
  .rw[QV w g];obtain⟨i,_,rfl⟩:=mm s g;exact C0
  .rw[h];exact Jj _
 have n:∀c x y,¬Co (AY (CJ W H) c) x y:=λc x y h=>by have:=h.length_le;have:=one c;simp at*;omega
 refine⟨z,⟨λi f=>⟨by unfold EE DA;simp,by unfold OC DA;simp⟩,λi e f he t=>by rw[if_pos (J i e t)]⟩,rfl,λi f=> ?_,lt,λs hs'=> ?_,⟨λc=> ?_,λc v=> ?_⟩,⟨λi e j k f hj L kj C r=>absurd r (n _ _ _),λi e a k f E L F C g o=>absurd g (n _ _ _),λa k b m E r F kb C g o h3=>absurd g (n _ _ _)⟩,λa k E F r=>absurd r (n _ _ _)⟩
 .rw[u i f];have G:=IY hs f.1 f.2;have jq:(0<=(AJ W H i).x/\(AJ W H i).x<W)/\(0<=(AJ W H i).y/\(AJ W H i).y<H):=⟨G.1,G.2.1⟩
  omega
 .obtain⟨i,_,rfl⟩:=mm s hs';simp
 .have:=one c;match hl:AY (CJ W H) c with
  | []=>exact N6
  | [x]=>simp
  |x::y::l=>rw[hl]at this;simp at this
 .constructor
  .intro q;rcases RC (CJ W H) c with⟨s,g,rfl⟩|h
   .rw[QV w g]at q;obtain⟨i,f,rfl⟩:=mm s g;simp only[Jw]at q;subst q;have I:AQ ⟨W,H,[]⟩ (i:Int):=⟨Dx,by show (i:Int)<4*W*H;omega⟩
    exact⟨I,u _ I⟩
   .rw[h]at q;simp at q
  .rintro⟨g,o⟩;rw[u v g]at o;have gf:0<=v/\v<4*W*H:=g;have M:(⟨AJ W H v,[v]⟩:Stk)∈CJ W H:=by
    unfold CJ;refine Js.2 ⟨v.toNat,Ka.2 Dx,?_⟩;rw[show ((v.toNat:Nat):Int)=v from Dx]
   have:=QV w M;rw[<-o];rw[this];simp
def rFl28(W H:Int):SV:=.agg (EO ⟨W,H,[]⟩ DA (CJ W H))
def g1h:AK
 | [.int .i64 W,.int .i64 H]=>some (AP W H=0,rFl28 W H)
 |_=>none
def d9s:HK:=λa own=>match a,own with
 | [.int .i64 W,.int .i64 H],[]=>some ⟨AP W H=0,.agg [.int .i64 W,.int .i64 H,.con (.slice none 0 0),.int .u8 0,.int .i64 0,.int .i64 0,.osl 0],[.row CG 4 (CJ W H).length (AA.row (CJ W H)) none],[]⟩
 |_,_=>none
def FFl28:FamH:=⟨Int×Int,λ(W,H)=>[.int .i64 W,.int .i64 H],λ_=>[],λ(W,H)=>AP W H=0,λ(W,H)=>.agg [.int .i64 W,.int .i64 H,.con (.slice none 0 0),.int .u8 0,.int .i64 0,.int .i64 0,.osl 0],λ(W,H)=>[.row CG 4 (CJ W H).length (AA.row (CJ W H)) none],[]⟩
def IFl28:Int×Int->Nat->Option Inv
 |(W,H),3=>some {β:=Nat,ok:=λi=>i<=AG W H,st:=λi=>⟨[⟨6,none,.int .i64 i⟩,⟨5,none,.own 1 0⟩,⟨4,none,.own 0 0⟩,⟨1,none,.int .i64 H⟩,⟨0,none,.int .i64 W⟩],[.cells 34 [.int .i64 0,.int .i64 0,.con (.slice none 0 0),.int .u8 0,.int .i64 0,.int .i64 0,.con (.slice none 0 0)],.cells 34 [.int .i64 W,.int .i64 H,.con (.slice none 0 0),.int .u8 0,.int .i64 0,.int .i64 0,.osl 2],.row 41 4 ((CJ W H).take i).length (AA.row ((CJ W H).take i)) none]⟩,μ:=λi=>AG W H-i,nl:=[.cell 1 6 41 4]}
 |_,_=>none
theorem d60{L:List Stk}{x y q:Int}{l:List Int}{n:Nat}{f:Nat->List SV}{c:Option Nat}{sz:Nat}(a:sz=1)(b:n=l.length)(d:∀j,j<n->f j=AC.row l j){j:Nat}(hj:j<L.length+1):Fl (if j<L.length then AA.row L j else(List.map (λx:Nat×List SV=>x.snd) [(0,[.int .i64 x,.int .i64 y,.int .u8 q,.sl sz n f c])].reverse).getD (j-L.length) []) (AA.row (L++[⟨⟨x,y,q⟩,l⟩]) j):=by
 subst a;by_cases e:j<L.length
 .left;rw[J7 e];unfold RT.row;rw[J5,J5,Jg e]
 .right;have:j=L.length:=Dx;subst this;rw[J8 e,Kw];unfold RT.row;rw[J5 (l:=L++_),Jm (Jf _),Kw];exact⟨rfl,rfl,rfl,⟨b,Ew,Gr,d⟩,Ja⟩
theorem f1e{W H:Int}(hs:AP W H=0){i:Nat}(hi:(i:Int)<4*W*H):(CJ W H).take (i+1)=(CJ W H).take i++[⟨⟨(i:Int)/4%W,(i:Int)/4/W,(i:Int)%4⟩,[(i:Int)]⟩]:=by have hN:=CF hs;rw[IE (d:=AA.d) (by unfold CJ;simp;omega)];congr 2;unfold CJ;rw[J5,Jz,Nm Dx];show (⟨AJ W H i,[(i:Int)]⟩:Stk)=_;rw[JJ hs Dx hi]
theorem f3m:HS 28 d9s:=by
 refine FU {l:=[(43,SY)],fz:=λd=>Nat.beq d 28,G:={gx:=λ_=>[.sel [2,0]]}} ⟨by simpa using Wu,Dz,Dz⟩ FFl28 IFl28 d9s ?_ ?_ ?_ Tryz.func28 Dy Dy Dy ?_
 .intro args own s h a;unfold d9s at h;split at h
  .rename_i W H;cases h;exact⟨(W,H),by simp[FFl28,BT,SV.le2,SV.le1,SV.le0],rfl,Ja,a,rfl,rfl,rfl⟩
  .cases h
 .exact Bx
 .exact C5
 .rintro⟨W,H⟩ μ a;replace a:AP W H=0:=a;have hN:=CF a;have hw:=HB a;refine X0b _ ?_;(repeat' first|constructor|intro h)<;>refine Lm ?_
  all_goals(try first
   |exact Ak)
  have Y4:(CJ W H).length=AG W H:=by unfold CJ;simp
  have Y7:4*W*H=4*(W*H):=M0 4 W H;refine⟨(0:Nat),Jj _,?_,?_⟩
  .refine X0b _ ?_;(repeat' first|constructor|intro h)<;>refine Lm ?_
   all_goals first|exact A6|exact Ai|skip
  .intro i c;replace c:i<=AG W H:=c;have bi:((CJ W H).take i).length<=AG W H:=Ej;refine X0b _ ?_;(repeat' first|constructor|intro h)<;>refine Lm ?_
   all_goals(try simp only[If]at*)
   all_goals(try first
    |omega
    |exact Az
    |exact A4
    |exact A8)
   .refine⟨i+1,by show i+1<=AG W H;omega,by show AG W H-(i+1)<AG W H-i;omega,?_⟩;have e:=f1e a h;rw[e,K5,M2];refine X0b _ ?_;(repeat' first|constructor|intro h)<;>refine Lm ?_
    all_goals first
     |exact Ap
     |(intro q f;refine d60 (l:=[(i:Int)]) Dy rfl (λj hj=> ?_) f;have e:j=0:=Nat.lt_one_iff.1 hj;rw[e];rfl)
   all_goals
    have e:(CJ W H).take i=CJ W H:=L9 Dx;rw[e];first|exact Ap|skip
theorem pFl28:PS 28 g1h:=ps_le (c8q f3m) λargs pre s h a=>by
 unfold g1h at h;split at h
 .rename_i W H;cases h;exact⟨_,_,rfl,a,by simp[rFl28,EO,FN,DA,SV.le2,SV.le1,BM,SV.le0,HQ,Fl]⟩
 .cases h
def IF(y x:Int×Int):Bool:=decide (y.1<x.1)||(decide (y.1=x.1)&&decide (y.2<x.2))
def KA(x:Int×Int):List (Int×Int)->List (Int×Int)
 | []=>[x]
 |y::r=>if IF y x=true then y::KA x r else if y=x then y::r else x::y::r
def GW(q:Pas):Int×Int:=(q.K,q.C)
def CA(ps:List Pas):List (Int×Int):=ps.foldl (λl q=>KA (GW q) l) []
theorem Wc{y x:Int×Int}:IF y x=true↔y.1<x.1\/y.1=x.1/\y.2<x.2:=by unfold IF;rw[Kd,K6,Jh,Jh,Jh]
theorem c9y{x y z:Int×Int}(h1:IF x y=true)(h2:IF y z=true):IF x z=true:=by rw[Wc]at*;omega
theorem f1z{x y:Int×Int}(h1:¬IF y x=true)(a:y≠x):IF x y=true:=by rw[Wc]at*;have:¬(y.1=x.1/\y.2=x.2):=λh=>a (Prod.ext h.1 h.2);omega
theorem c0h{x:Int×Int}:∀(l:List (Int×Int)) (k:Nat),k<=l.length->(∀j,j<k->IF (l.getD j FB.d) x=true)->(k<l.length->¬IF (l.getD k FB.d) x=true)->
 KA x l=if k<l.length/\l.getD k FB.d=x then l else l.take k++([x]++l.drop k)
 | [],k,h,_,_=>by obtain rfl:k=0:=E4;rfl
 |y::l,0,_,_,h=>by
  have a:¬IF y x=true:=h Dz;rw[KA,J8 a];show (if y=x then y::l else x::y::l)=if 0<(y::l).length/\y=x then y::l else []++([x]++y::l);by_cases e:y=x
  .rw[J7 e,J7 ⟨Dz,e⟩]
  .rw[J8 e,J8 (λq=>e q.2)];rfl
 |y::l,k+1,h,b,c=>by
  have a:IF y x=true:=b 0 Dx;have f:=@c0h x l k E4 (λj q=>b (j+1) Dx) (λq=>c (by simpa using q));rw[KA,J7 a,f];show (y::if k<l.length/\l.getD k FB.d=x then l else l.take k++([x]++l.drop k))=if k+1<(y::l).length/\l.getD k FB.d=x then y::l else y::l.take k++([x]++l.drop k);by_cases e:k<l.length/\l.getD k FB.d=x
  .rw[J7 e,J7 ⟨by simpa using e.1,e.2⟩]
  .rw[J8 e,J8 (λq=>e ⟨by simpa using q.1,q.2⟩)];rfl
theorem b5p{x y:Int×Int}:∀(l:List (Int×Int)),y∈KA x l↔y∈l\/y=x
 | []=>by simp[KA]
 |z::l=>by
  rw[KA];split
  .rw[Ji,b5p l,Ji,or_assoc]
  .split
   .rename_i h;subst h;simp only[Ji];constructor
    .exact λh=>.inl h
    .rintro(h|h)
     .exact h
     .exact .inl h
   .simp only[Ji];constructor
    .rintro(h|h)
     .exact .inr h
     .exact .inl h
    .rintro(h|h)
     .exact .inr h
     .exact .inl h
theorem c2v{x:Int×Int}:∀(l:List (Int×Int)),(KA x l).length<=l.length+1
 | []=>by simp[KA]
 |z::l=>by
  have:=@c2v x l;rw[KA];split
  .simp only[Kt];omega
  .split<;>simp
theorem c1z{x:Int×Int}:∀(l:List (Int×Int)),l.Pairwise (λa b=>IF a b=true)->(KA x l).Pairwise λa b=>IF a b=true
 | [],_=>by simp[KA]
 |z::l,h=>by
  rw[Kn]at h;rw[KA];split
  .rename_i d;rw[Kn];refine⟨λa c=> ?_,c1z l h.2⟩;rcases(b5p l).1 c with c|rfl
   .exact h.1 a c
   .exact d
  .rename_i d;split
   .rw[Kn];exact h
   .rename_i e;have hx:=f1z d e;rw[Kn,Kn];refine⟨λa c=> ?_,h⟩;rcases Ji.1 c with rfl|c
    .exact hx
    .exact c9y hx (h.1 a c)
theorem c85{ps:List Pas}{i:Nat}{d:Pas}(h:i<ps.length):CA (ps.take (i+1))=KA (GW (ps.getD i d)) (CA (ps.take i)):=by unfold CA;rw[Mb,J6 h,List.foldl_append,J5,J6 h];rfl
theorem f3x(ps:List Pas):∀(l:List (Int×Int)),l.Pairwise (λa b=>IF a b=true)->(ps.foldl (λl q=>KA (GW q) l) l).Pairwise (λa b=>IF a b=true)/\(∀y,y∈ps.foldl (λl q=>KA (GW q) l) l↔y∈l\/∃q∈ps,GW q=y)/\(ps.foldl (λl q=>KA (GW q) l) l).length<=l.length+ps.length:=by
 induction ps with
 |nil=>intro l h;exact⟨h,λy=>Dz,Dz⟩
 |cons q ps c=>
  intro l h;obtain⟨d,e,h3⟩:=c (KA (GW q) l) (c1z l h);refine⟨d,λy=> ?_,?_⟩
  .rw[M3,e,b5p];simp only[Ji,exists_eq_or_imp];rw[or_assoc];constructor
   .rintro(h|h|h)
    .exact .inl h
    .exact .inr (.inl h.symm)
    .exact .inr (.inr h)
   .rintro(h|h|h)
    .exact .inl h
    .exact .inr (.inl h.symm)
    .exact .inr (.inr h)
  .have:=@c2v (GW q) l;rw[M3,Kt];omega
theorem f6d{ps:List Pas}{y:Int×Int}:y∈CA ps↔∃q∈ps,GW q=y:=by have:=(f3x ps [] .nil).2.1 y;simp only[Nk,false_or]at this;exact this
theorem d6b(ps:List Pas):(CA ps).length<=ps.length:=by have:=(f3x ps [] .nil).2.2;simp only[Mn,L7]at this;exact this
theorem lin_on{p:Pt}{P:Int->Mv}{y:Int×Int}(g:BG p=0)(G:PlcG p P):y∈CA (GL p P (3*AG p.W p.H))↔YE p P y.1 y.2:=by
 have hs:=(FI g).1;rw[f6d];constructor
 .rintro⟨q,j,rfl⟩;obtain⟨a,e,c,d,h,rfl⟩:=(YZ g G).1 j;exact⟨a,e,c,d,rfl⟩
 .rintro⟨a,e,c,d,h⟩;have f:∀b,CL p b e->AZ p b e=0->b<Al p b e->KB p P y.1 y.2 b e->∃q∈GL p P (3*AG p.W p.H),GW q=y:=λb k l m n=>by
   refine⟨_,(YZ g G).2 ⟨b,e,k,l,m,rfl⟩,?_⟩;have i:GQ (DK (AR p P b)) (DK (BO p P b e))=(y.1,y.2):=n;unfold GW;simp only;rw[i]
  by_cases o:a<Al p a e
  .exact f a c d o h
  .obtain⟨r,s⟩:=PN hs c;have nq:Al p a e≠a:=λq=>by
    have:=(KG hs c.1 c.2.1 c.2.2).2.1;have t:AF p.W p.H a e=a:=q;rw[t]at this;exact Vm (KF hs c.1) c.2.1 this.symm
   exact f _ r (by rw[QG hs g c];exact d) (by rw[s];omega) ((d47 hs G c d).2 h)
abbrev AO(p:Pt)(r:Mv):List Pas:=GL p (AL p r) (3*AG p.W p.H)
def f0b(p:Pt)(r:Mv):SV:=.sl 2 (CA (AO p r)).length (FB.row (CA (AO p r))) none
def d9q:AK
 | [x]=>(MN x).map λq=>(q.1/\Bo q.2.1 q.2.2.1=0,f0b q.2.1 q.2.2.1)
 |_=>none
def FLn28:Fam:=⟨Pt×Mv×List Stk,λ(p,r,L)=>[.agg (EO p r L)],λ(p,r,L)=>(prOK p r/\EG L)/\Bo p r=0,λ(p,r,_)=>f0b p r⟩
def lnEn(p:Pt)(r:Mv)(i:Nat)(a:List Entry):List Entry:=a++[⟨5,none,.int .i64 i⟩,⟨4,none,.sl 2 (CA ((AO p r).take i)).length (FB.row (CA ((AO p r).take i))) none⟩,⟨3,none,.sl 4 (AO p r).length (CH.row (AO p r)) none⟩,⟨1,none,.own 0 0⟩]
def ILn28:Pt×Mv×List Stk->Nat->Option Inv
 |(p,r,L),4=>some {β:=Nat,ok:=λi=>i<=(AO p r).length,st:=λi=>⟨lnEn p r i [],[.cells 34 (EO p r L)]⟩,μ:=λi=>(AO p r).length-i,sub:=λi=>some fun
  |8=>some {β:=Nat,ok:=λk=>(i<(AO p r).length/\k<=(CA ((AO p r).take i)).length)/\∀j,j<k->IF ((CA ((AO p r).take i)).getD j FB.d) (GW ((AO p r).getD i CH.d))=true,st:=λk=>⟨lnEn p r i [⟨7,none,.int .i64 k⟩,⟨6,none,.own 1 0⟩],[.cells 34 (EO p r L),.cells 71 [.int .u8 ((AO p r).getD i CH.d).K,.int .i64 ((AO p r).getD i CH.d).C]]⟩,μ:=λk=>(CA ((AO p r).take i)).length-k}
  |_=>none}
 |_,_=>none
theorem f2y{O:List (Int×Int)}{k:Nat}{x:Int×Int}(hk:k<=O.length):0+((k:Int)-0).toNat+1+((O.length:Int)-k).toNat=(O.take k++([x]++O.drop k)).length:=by simp only[K5,Mj,List.length_drop,M2];omega
theorem f51{O:List (Int×Int)}{k:Nat}{x:Int×Int}{K C:Int}(hx:x=(K,C))(hk:k<=O.length){j:Nat}(c:j<0+((k:Int)-0).toNat+1+((O.length:Int)-k).toNat):Fl (if j<0+((k:Int)-0).toNat+1 then if j<0+((k:Int)-0).toNat then if j<0 then []else FB.row O (Int.toNat 0+(j-0))else(List.map (λx:Nat×List SV=>x.snd) [(0,[SV.int .u8 K,SV.int .i64 C])].reverse).getD (j-(0+((k:Int)-0).toNat)) []else FB.row O (k+(j-(0+((k:Int)-0).toNat+1)))) (FB.row (O.take k++([x]++O.drop k)) j):=by
 left;have e:((k:Int)-0).toNat=k:=Dx;rw[e,L7]at c⊢;have a:(O.take k).length=k:=Ej;subst hx;unfold RT.row;by_cases b:j<k
 .rw[J7 Dx,J7 b,J8 (Jv _),show Int.toNat 0+(j-0)=j from Dx];rw[J5,J5,Jg Dx,List.getElem?_take_of_lt b]
 .by_cases d:j=k
  .subst d;rw[J7 Dx,J8 (Lz _),Kw];rw[J5 (l:=O.take j++_),Jm Dx,a,Kw];rfl
  .rw[J8 Dx];rw[J5,J5,Jm Dx,a,Jm (by rw[M2];omega),Np,M2];congr 3
theorem pLn28:PS 29 d9q:=by
 refine LL {l:=[(66,Tg)],gr:=λid=>bif Nat.beq id 11 then [.orders,.fz 2,.fz 3]else []} ⟨by simpa using pPs28,Dz,Dz⟩ FLn28 ILn28 d9q ?_ ?_ Tryz.func29 Dy Dy Dy ?_
 .intro args pre s h hp;unfold d9q at h;split at h
  .simp only[Ih]at h;obtain⟨⟨q,p,r,L⟩,hx,rfl,rfl⟩:=h;obtain⟨h1,h2,h3⟩:=QW hx hp.1;exact Du
  .cases h
 .exact By
 .rintro⟨p,r,L⟩ ⟨⟨⟨⟨E,F⟩,G⟩,o⟩,t⟩;have hs:=(FI (Sg t).1).1;have hN:=CF hs;have ba:(AO p r).length<=1000000:=by
   have:=@c43 p (AL p r) (3*AG p.W p.H);have hw:=HB hs;show (GL p (AL p r) (3*AG p.W p.H)).length<=_;omega
  refine X0a _ ?_;(repeat' first|constructor|intro h)<;>refine Lm ?_
  all_goals(try simp only[CI,RT.lst_row,Jo,JS]at*)
  all_goals(try exact⟨⟨⟨⟨Do _,E⟩,F,G⟩,MH L o.1,o.2⟩,t⟩)
  refine⟨(0:Nat),Jj _,?_,?_⟩
  .exact X2f
  .intro i u;replace u:i<=(AO p r).length:=u;refine X0b _ ?_;(repeat' first|constructor|intro h)<;>refine Lm ?_
   all_goals(try simp only[If]at*)
   all_goals(try first
    |exact Ak)
   .have g:i<(AO p r).length:=Dx;have I:=@c85 (AO p r) i CH.d g;have jx:(CA ((AO p r).take i)).length<=1000000:=by
     have:=d6b ((AO p r).take i);rw[Mj]at this;omega
    refine⟨(0:Nat),⟨⟨g,Jj _⟩,λj v=>absurd v (Jv _)⟩,?_,?_⟩
    .exact X2b
    .intro k m;replace m:(i<(AO p r).length/\k<=(CA ((AO p r).take i)).length)/\∀j,j<k->IF ((CA ((AO p r).take i)).getD j FB.d) (GW ((AO p r).getD i CH.d))=true:=m;obtain⟨⟨_,k1⟩,k2⟩:=m;have n:=c0h (x:=GW ((AO p r).getD i CH.d)) (CA ((AO p r).take i)) k k1 k2;have w:(GW ((AO p r).getD i CH.d)).1=((AO p r).getD i CH.d).K:=rfl;have y:(GW ((AO p r).getD i CH.d)).2=((AO p r).getD i CH.d).C:=rfl;by_cases f:k<(CA ((AO p r).take i)).length/\IF ((CA ((AO p r).take i)).getD k FB.d) (GW ((AO p r).getD i CH.d))=true
     .obtain⟨pw,z⟩:=f;have A:=Wc.1 z;rw[w,y]at A;clear n;refine X0b _ ?_;(repeat' first|constructor|intro h)<;>refine Lm ?_
      all_goals(try simp only[If,Ik,Iq,Ig,Mr]at*)
      all_goals(try first
       |exact Bj)
      refine⟨k+1,⟨⟨g,Dx⟩,λj v=> ?_⟩,F9,?_⟩
      .by_cases e:j=k
       .subst e;exact z
       .exact k2 j Dx
      .exact X2g
     .have A:¬(k<(CA ((AO p r).take i)).length/\(((CA ((AO p r).take i)).getD k FB.d).1<((AO p r).getD i CH.d).K\/((CA ((AO p r).take i)).getD k FB.d).1=((AO p r).getD i CH.d).K/\((CA ((AO p r).take i)).getD k FB.d).2<((AO p r).getD i CH.d).C)):=λq=>f ⟨q.1,Wc.2 (by rw[w,y];exact q.2)⟩;have b:=n λq h=>f ⟨q,h⟩;rw[<-I]at b;clear n k2 f;by_cases c:k<(CA ((AO p r).take i)).length/\(CA ((AO p r).take i)).getD k FB.d=GW ((AO p r).getD i CH.d)
      .rw[J7 c]at b;obtain⟨t6,B⟩:=c;have J:((CA ((AO p r).take i)).getD k FB.d).1=((AO p r).getD i CH.d).K:=by rw[B];rfl
       have hd4:((CA ((AO p r).take i)).getD k FB.d).2=((AO p r).getD i CH.d).C:=by rw[B];rfl
       refine X0b _ ?_;(repeat' first|constructor|intro h)<;>refine Lm ?_
       all_goals(try simp only[If,Ik,Iq,Ig,Mr]at*)
       all_goals(try first
        |exact Bj)
       refine⟨i+1,Ec,Ea,?_⟩;all_goals refine X0b _ ?_;(repeat' first|constructor|intro h)<;>refine Lm ?_
       all_goals first|rfl|(rw[b];done)|(rw[b];exact λ_ _=>.inl rfl)|exact A5|omega|skip
      .rw[J8 c]at b;have J:¬(k<(CA ((AO p r).take i)).length/\((CA ((AO p r).take i)).getD k FB.d).1=((AO p r).getD i CH.d).K/\((CA ((AO p r).take i)).getD k FB.d).2=((AO p r).getD i CH.d).C):=λq=>c ⟨q.1,Prod.ext q.2.1 q.2.2⟩;clear c;refine X0b _ ?_;(repeat' first|constructor|intro h)<;>refine Lm ?_
       all_goals(try simp only[If,Ik,Iq,Ig,Mr]at*)
       all_goals(try first
        |exact Bj
        |exact B5
        |exact A8)
       all_goals
        refine⟨i+1,Ec,Ea,?_⟩;all_goals refine X0b _ ?_;(repeat' first|constructor|intro h)<;>refine Lm ?_
        all_goals(try first|exact Ay)
        all_goals rw[b]
        all_goals first
         |exact f2y k1
         |exact λ_ h=>f51 rfl k1 h
         |skip
   all_goals
    have M:i=(AO p r).length:=Dx;rw[M,L8];first|exact Ay|skip
section
variable{L:List Stk}{K C sd:Int}{i:Nat}
theorem f6f(h:i<L.length)(hs:DJ K C (L.getD i AA.d).c≠sd):ED K C sd (L.take (i+1))=ED K C sd (L.take i)++[L.getD i AA.d]/\DM K C sd (L.take (i+1))=DM K C sd (L.take i):=by rw[IE (d:=AA.d) h];unfold ED DM;rw[Nc,Nc];generalize L.getD i AA.d=x at*;simp[hs]
theorem f9y(h:i<L.length)(hs:DJ K C (L.getD i AA.d).c=sd):ED K C sd (L.take (i+1))=ED K C sd (L.take i)/\DM K C sd (L.take (i+1))=DM K C sd (L.take i)++[⟨BE (BJ K C) (L.getD i AA.d).c,(L.getD i AA.d).l.reverse⟩]:=by rw[IE (d:=AA.d) h];unfold ED DM;rw[Nc,Nc];generalize L.getD i AA.d=x at*;simp[hs]
theorem d9e:(ED K C sd (L.take i)).length<=L.length:=by unfold ED;refine Kz (Nf _ _) ?_;rw[Mj];omega
theorem d8s:(DM K C sd (L.take i)).length<=L.length:=by unfold DM;rw[K8];refine Kz (Nf _ _) ?_;rw[Mj];omega
def JM(K C sd:Int)(L:List Stk):Bool:=L.any λs=>decide (DJ K C s.c=sd)&&s.l.contains 0
def Wx(z:Bool)(r m:Mv):Mv:=⟨if z=true then(DN r m).t else r.t,if z=true then(DN r m).x else r.x,if z=true then(DN r m).y else r.y⟩
theorem rt_eq(z:Bool)(r m:Mv):Wx z r m=if z=true then DN r m else r:=by cases z<;>rfl
theorem z_stay(h:i<L.length)(hs:DJ K C (L.getD i AA.d).c≠sd):JM K C sd (L.take (i+1))=JM K C sd (L.take i):=by rw[IE (d:=AA.d) h];unfold JM;rw[List.any_append];generalize L.getD i AA.d=x at*;simp[hs]
theorem z_away(h:i<L.length)(hs:DJ K C (L.getD i AA.d).c=sd):JM K C sd (L.take (i+1))=(JM K C sd (L.take i)||((L.getD i AA.d).l.reverse.take (L.getD i AA.d).l.length).contains 0):=by rw[IE (d:=AA.d) h];unfold JM;rw[List.any_append];generalize L.getD i AA.d=x at*;have e:x.l.reverse.take x.l.length=x.l.reverse:=L9 Dz;rw[e];simp[hs]
theorem f79{l:List Int}{j:Nat}(h:j<l.length):l.reverse.getD j 0=l.getD (l.length-1-j) 0:=by rw[J5,J5,List.getElem?_reverse h]
theorem f0r{l:List Int}{j:Nat}(h:j<l.length):(l.take (j+1)).contains 0=((l.take j).contains 0||decide (l.getD j 0=0)):=by rw[IE (d:=0) h,List.contains_append];congr 1;rw[List.contains_cons,List.contains_nil,N2];rw[Ls,M5,Jh];exact eq_comm
end
theorem c9u(_:Bool)(S:List Stk)(x:Stk):(∃k,k<S.length/\(∀j,j<k->(S.getD j AA.d).c≠x.c)/\(S.getD k AA.d).c=x.c)\/∀j,j<S.length->(S.getD j AA.d).c≠x.c:=by
 induction S with
 |nil=>exact .inr λj hj=>absurd hj (Jv _)
 |cons s S a=>
  by_cases h:s.c=x.c
  .exact .inl ⟨0,Dz,λj hj=>absurd hj (Jv _),h⟩
  .rcases a with⟨k,h1,b,e⟩|h1
   .refine .inl ⟨k+1,Ev,λj hj=> ?_,e⟩;cases j with
    |zero=>exact h
    |succ j=>exact b j Dx
   .refine .inr λj hj=> ?_;cases j with
    |zero=>exact h
    |succ j=>exact h1 j En
theorem b4x{over:Bool}{S A:List Stk}{i:Nat}(h:i<A.length):AX over S (A.take (i+1))=ER over (AX over S (A.take i)) (A.getD i AA.d):=by unfold AX;rw[IE (d:=AA.d) h,List.foldl_append];rfl
theorem c31{over:Bool}{x:Stk}:∀(S:List Stk) (j:Nat),j<S.length->((ER over S x).getD j AA.d).c=(S.getD j AA.d).c/\((S.getD j AA.d).c≠x.c->(ER over S x).getD j AA.d=S.getD j AA.d)
 | [],j,h=>E8
 |s::S,j,h=>by
  rw[ER];split
  .rename_i e;cases j with
   |zero=>exact⟨rfl,λq=>absurd e q⟩
   |succ j=>exact⟨rfl,λ_=>rfl⟩
  .cases j with
   |zero=>exact⟨rfl,λ_=>rfl⟩
   |succ j=>exact c31 S j E4
theorem b4w{over:Bool}{x:Stk}:∀(S:List Stk),S.length<=(ER over S x).length/\(ER over S x).length<=S.length+1
 | []=>by simp[ER]
 |s::S=>by
  have:=@b4w over x S;rw[ER];split
  .simp
  .simp only[Kt];omega
theorem Ur{over:Bool}:∀(A S:List Stk),S.length<=(AX over S A).length/\(AX over S A).length<=S.length+A.length
 | [],S=>by show S.length<=S.length/\S.length<=S.length+0;omega
 |x::A,S=>by have h1:=@Ur over A (ER over S x);have h2:=@b4w over x S;have e:AX over S (x::A)=AX over (ER over S x) A:=rfl;rw[e,Kt];omega
theorem XH{over:Bool}:∀(A S:List Stk) (j:Nat),j<S.length->((AX over S A).getD j AA.d).c=(S.getD j AA.d).c/\((S.getD j AA.d).c∉A.map (·.c)->(AX over S A).getD j AA.d=S.getD j AA.d)
 | [],S,j,h=>⟨rfl,λ_=>rfl⟩
 |x::A,S,j,h=>by have e:AX over S (x::A)=AX over (ER over S x) A:=rfl;have h1:=(@b4w over x S).1;obtain⟨g1,a⟩:=@c31 over x S j h;obtain⟨f1,f2⟩:=@XH over A (ER over S x) j Dx;rw[e];refine⟨f1.trans g1,λq=> ?_⟩;rw[Kr,Ji,not_or]at q;rw[f2 (by rw[g1];exact q.2),a q.1]
theorem c78{over:Bool}:∀(A S:List Stk) (j:Nat),S.length<=j->j<(AX over S A).length->((AX over S A).getD j AA.d).c∈A.map (·.c)
 | [],S,j,g,a=>by have e:AX over S []=S:=rfl;rw[e]at a;omega
 |x::A,S,j,g,a=>by
  have e:AX over S (x::A)=AX over (ER over S x) A:=rfl;rw[e]at a⊢;by_cases f:j<(ER over S x).length
  .have hl:=(@b4w over x S).2;have b:j=S.length:=Dx;subst b;rw[(@XH over A (ER over S x) S.length f).1];rcases c9u over S x with⟨k,k1,k2,k3⟩|i
   .rw[b48 S k k1 k2 k3,Kq]at f;omega
   .rw[YR S i];simp[]
  .exact Ju _ (c78 A _ j Dx a)
theorem d35:∀(n:Nat) (l:List Int),l.Nodup->(∀x∈l,0<=x/\x<(n:Int))->l.length<=n
 |0,l,_,h=>by
  cases l with
  |nil=>simp
  |cons x l=>have:=h x Dz;omega
 |n+1,l,a,h=>by
  have b:=d35 n (l.erase (n:Int)) (a.sublist List.erase_sublist) (λx hx=>by
   have h1:=h x (List.mem_of_mem_erase hx);have h2:x≠(n:Int):=λe=>by subst e;exact a.not_mem_erase hx
   omega)
  rw[List.length_erase]at b;split at b<;>omega
namespace StG
variable{p:Pt}{r:Mv}{L:List Stk}{P:Int->Mv}{B:Int}
theorem flat_len(X:StG p r L P B):(Ao L).length<=AG p.W p.H:=by have hN:=CF X.hs;refine d35 _ _ X.flat_nd λx hx=> ?_;have h:=(X.flat_mem x).1 hx;unfold AQ at h;omega
theorem lay_len(X:StG p r L P B){s:Stk}(hs:s∈L):s.l.length<=AG p.W p.H:=by have hN:=CF X.hs;have a:=X.S.nd s.c;rw[X.at_ hs]at a;refine d35 _ _ a λx hx=> ?_;have h:=(X.inSt hs hx).1;unfold AQ at h;omega
theorem len(X:StG p r L P B):L.length<=AG p.W p.H:=by
 refine Nat.le_trans ?_ X.flat_len;have:∀M:List Stk,(∀s∈M,s.l≠[])->M.length<=(Ao M).length:=by
  intro M;induction M with
  |nil=>intro _;simp
  |cons s M a=>
   intro h;have h1:=a λt b=>h t (List.mem_cons_of_mem _ b);have h2:0<s.l.length:=List.length_pos_iff.2 (h s (by simp));have e:Ao (s::M)=s.l++Ao M:=rfl;rw[e,List.length_append,List.length_cons];omega
 exact this L X.ne
theorem stIn(X:StG p r L P B):EG L:=by
 have hN:=CF X.hs;have hw:=HB X.hs;have h1:=X.len;have h2:=X.flat_len;refine⟨⟨by omega,λs hs=> ?_⟩,λs hs=> ?_,by omega⟩
 .have:=X.lay_len hs;omega
 .have:=X.cQ hs;unfold CD at this;exact⟨this.1,by show s.c.q<=255;omega⟩
theorem cg(X:StG p r L P B){Q:Int->Mv}(h:∀i,AQ p i->Q i=P i):StG p r L Q B:=by
 have hs:=X.hs;have hN:=CF hs;refine⟨X.hp,⟨λi a=>by rw[h i a];exact X.G.ok i a,λi e a f g=> ?_⟩,?_,λi a=>by rw[UE h a];exact X.bd i a,X.lt,X.ne,⟨X.S.nd,λc v=> ?_⟩,g0g h X.N,kd_cg hs h X.D⟩
 .rw[h i a,h _ (KG hs a f g).1];exact X.G.cr i e a f g
 .rw[h 0 ⟨Int.le_refl _,by omega⟩];exact X.r0
 .rw[X.S.mem c v];constructor
  .rintro⟨b,d⟩;exact⟨b,by rw[UE h b];exact d⟩
  .rintro⟨b,d⟩;exact⟨b,by rw[<-UE h b];exact d⟩
theorem pl(X:StG p r L P B)(a:B<=4000):StG p r L (AL p r) B:=X.cg λi b=>(X.places a).2 i b
theorem mono{B':Int}(X:StG p r L P B)(hB:B<=B'):StG p r L P B':=
 ⟨X.hp,X.G,X.r0,λi a=>by have:=X.bd i a;omega,X.lt,X.ne,X.S,X.N,X.D⟩
end StG
abbrev HU:=Pt×Mv×List Stk
def MV(s:HU):List (Int×Int):=CA (GL s.1 (AL s.1 s.2.1) (3*AG s.1.W s.1.H))
def Sd(s:HU)(K C sd:Int)(over:Bool):HU:=(FK s.1 (AL s.1 s.2.1) K C over,FD s.1 (AL s.1 s.2.1) K C sd 0,JW over K C sd s.2.2)
def Tq(s:HU)(a:Int):Int×Int:=(MV s).getD (a%((MV s).length:Int)).toNat FB.d
def IB(s:HU)(f:Int×Int×Int):HU:=if MV s=[]then s else Sd s (Tq s f.1).1 (Tq s f.1).2 (f.2.1%2) (decide (f.2.2%2=1))
def Wn(w h:Int):HU:=(⟨1+w%4,1+h%4,[]⟩,DA,CJ (1+w%4) (1+h%4))
def GK(w h:Int)(l:List (Int×Int×Int)):HU:=(l.take 5).foldl IB (Wn w h)
def Pr:Nat->Int
 |0=>3
 |i+1=>3*Pr i+2
theorem c2w{i:Nat}(h:i<=5):3<=Pr i/\Pr i<=971:=by
 match i,h with
 |0,_=>decide
 |1,_=>decide
 |2,_=>decide
 |3,_=>decide
 |4,_=>decide
 |5,_=>decide
structure SOK (s:HU) (i:Nat):Prop where
 g:StG s.1 s.2.1 s.2.2 (AL s.1 s.2.1) (Pr i)
 small:s.1.W<=4/\s.1.H<=4
 few:s.1.l.length<=192*i
 u8:∀c∈s.1.l,AD .u8 c.e
theorem SOK.prOK{s:HU}{i:Nat}(X:SOK s i)(hi:i<=5):prOK s.1 s.2.1:=by have hN:=CF X.g.hs;have a:=(X.g.G.ok 0 ⟨Int.le_refl _,by omega⟩).1;rw[X.g.r0]at a;have:=X.few;unfold EE at a;exact⟨⟨by omega,X.u8⟩,by omega,by omega⟩
theorem SOK.n{s:HU}{i:Nat}(X:SOK s i):AG s.1.W s.1.H<=64:=by have a:=CF X.g.hs;have hw:=HB X.g.hs;obtain⟨b,c⟩:=X.small;have:s.1.W*s.1.H<=4*4:=Int.mul_le_mul b c (by omega) (by omega);rw[Int.mul_assoc]at a;omega
theorem SOK.chk{s:HU}{i:Nat}(X:SOK s i)(hi:i<=5):CO s.1 s.2.1 s.2.2=0:=X.g.valid (by have:=c2w hi;omega)
theorem SOK.mono{s:HU}{i j:Nat}(X:SOK s i)(h:i<=j)(a:j<=5):SOK s j:=by
 refine⟨X.g.mono ?_,X.small,by have:=X.few;omega,X.u8⟩;have:∀j,i<=j->j<=5->Pr i<=Pr j:=by
  intro j;induction j with
  |zero=>intro h _;have:i=0:=by omega
         subst this;exact Int.le_refl _
  |succ j b=>
   intro h1 h2;by_cases e:i=j+1
   .subst e;exact Int.le_refl _
   .have h3:=b (by omega) (by omega);have h4:=c2w (i:=j) (by omega);show Pr i<=3*Pr j+2;omega
 exact this j h a
theorem c77(l:List Cr):(NE l).length=l.length:=(b6i l).length_eq
theorem SOK.fold{s:HU}{i:Nat}(X:SOK s i)(hi:i+1<=5){K C sd:Int}(b:YE s.1 (AL s.1 s.2.1) K C)(a:sd=0\/sd=1)(over:Bool):SOK (Sd s K C sd over) (i+1):=by
 obtain⟨hK,Y⟩:=X.g.fold X.u8 b a over;have hB:=c2w (i:=i+1) hi;have c:StG (Sd s K C sd over).1 (Sd s K C sd over).2.1 (Sd s K C sd over).2.2 (FD s.1 (AL s.1 s.2.1) K C sd) (Pr (i+1)):=Y;refine⟨c.pl (by omega),X.small,?_,?_⟩
 .show (NE (s.1.l++MC s.1 (AL s.1 s.2.1) K C over)).length<=_;rw[c77,List.length_append];have h1:=X.few;have h2:=X.n;have h3:(MC s.1 (AL s.1 s.2.1) K C over).length<=3*AG s.1.W s.1.H:=by
   unfold MC;rw[List.length_map];refine Nat.le_trans (List.length_filter_le _ _) ?_;unfold GL;refine Nat.le_trans (List.length_filterMap_le _ _) ?_;simp
  omega
 .exact(d7d (K:=K) (C:=C) (over:=over) X.g.hp X.u8 X.g.G).2
theorem ci_bd{c:Cl}{e B:Int}(a:CD c)(b:0<=e/\e<3)(d:(-B<=c.x/\c.x<=B)/\ -B<=c.y/\c.y<=B): -(2*B+1)<=DF c.x c.y c.q e/\DF c.x c.y c.q e<=2*B+1:=by obtain⟨X,Y,Q⟩:=c;rcases EW a with h|h|h|h<;>rcases GS b with rfl|rfl|rfl<;>(simp only at h d;subst h;simp[DF,Hl,JU,tb];omega)
theorem on_bd{p:Pt}{r:Mv}{L:List Stk}{P:Int->Mv}{B K C:Int}(X:StG p r L P B)(f:YE p P K C):(1<=K/\K<=4)/\ -(2*B+1)<=C/\C<=2*B+1:=by have hs:=X.hs;obtain⟨a,e,b,ka,g⟩:=f;have c:=LA hs X.G b.1;have d:=Sk (t:=(P a).t) b.2.1;obtain⟨h,i⟩:=(YG hs X.G b.1 b.2.1).1 g;rw[<-h,<-i];exact⟨ci_K c d,ci_bd c d (X.bd a b.1)⟩
theorem d3n{s:HU}{i:Nat}(X:SOK s i){y:Int×Int}:y∈MV s↔YE s.1 (AL s.1 s.2.1) y.1 y.2:=lin_on X.g.hp X.g.G
theorem c3j{s:HU}{a:Int}(h:MV s≠[]):Tq s a∈MV s:=by have hl:0<(MV s).length:=List.length_pos_iff.2 h;refine CP ?_;have h1:=Int.emod_nonneg a (b:=((MV s).length:Int)) (by omega);have h2:=Int.emod_lt_of_pos a (b:=((MV s).length:Int)) (by omega);omega
theorem md2(a:Int):a%2=0\/a%2=1:=by omega
theorem SOK.next{s:HU}{i:Nat}(X:SOK s i)(hi:i+1<=5)(f:Int×Int×Int):SOK (IB s f) (i+1):=by
 unfold IB;split
 .exact X.mono (by omega) hi
 .rename_i h;exact X.fold hi ((d3n X).1 (c3j h)) (md2 _) _
theorem g04(w h:Int):SOK (Wn w h) 0:=by
 have a1:=Int.emod_nonneg w (b:=4) (by omega);have a2:=Int.emod_lt_of_pos w (b:=4) (by omega);have b1:=Int.emod_nonneg h (b:=4) (by omega);have b2:=Int.emod_lt_of_pos h (b:=4) (by omega);have hs:AP (1+w%4) (1+h%4)=0:=by
  have a:w%4=0\/w%4=1\/w%4=2\/w%4=3:=by omega
  have d:h%4=0\/h%4=1\/h%4=2\/h%4=3:=by omega
  rcases a with e|e|e|e<;>rcases d with g|g|g|g<;>rw[e,g]<;>decide
 have G:=d2h (B:=3) hs (by omega);exact⟨G.pl (by omega),by show 1+w%4<=4/\1+h%4<=4;omega,by show 0<=_;omega,λc f=>by cases f⟩
theorem so_ok:∀(l:List (Int×Int×Int)) (s:HU) (i:Nat),SOK s i->i+l.length<=5->SOK (l.foldl IB s) (i+l.length)
 | [],s,i,h,_=>h
 |f::l,s,i,h,a=>by rw[List.length_cons]at a⊢;have:=so_ok l (IB s f) (i+1) (h.next (by omega) f) (by omega);rw[show i+(l.length+1)=i+1+l.length by omega];exact this
theorem sOf_ok(w h:Int)(l:List (Int×Int×Int)):SOK (GK w h l) 5:=by
 have hl:(l.take 5).length<=5:=by rw[List.length_take];omega
 have:=so_ok (l.take 5) (Wn w h) 0 (g04 w h) (by omega);exact this.mono (by omega) (by omega)
theorem c54:∀(l:List (Int×Int×Int)) (s:HU),MV s=[]->l.foldl IB s=s
 | [],_,_=>rfl
 |f::l,s,h=>by
  have e:IB s f=s:=by unfold IB;rw[if_pos h]
  rw[List.foldl_cons,e];exact c54 l s h
def GG(S A:List Stk)(q:Nat):Bool:=decide (q<S.length)&& !(A.any λx=>decide (x.c=(S.getD q AA.d).c))
theorem SU{S A:List Stk}{q:Nat}:GG S A q=true↔q<S.length/\(S.getD q AA.d).c∉A.map (·.c):=by unfold GG;rw[K6,Jh,Bool.not_eq_true',Jx];simp only[Jh,Js,not_exists,not_and]
theorem d4j(S:List Stk)(q:Nat):GG S [] q=decide (q<S.length):=by unfold GG;simp
theorem f22{A:List Stk}(nA:DC A){i:Nat}(hi:i<A.length):(A.getD i AA.d).c∉(A.take i).map (·.c):=by
 unfold DC at nA;have h:(A.take (i+1)).map (·.c)=(A.take i).map (·.c)++[(A.getD i AA.d).c]:=by rw[IE (d:=AA.d) hi,Lq];rfl
 have a:((A.take (i+1)).map (·.c)).Nodup:=Ns ((List.take_sublist _ _).map _) nA;rw[h,Mm]at a;exact λb=>a.2.2 _ b _ Dz rfl
theorem nd_eq{S:List Stk}(a:DC S){j k:Nat}(b:j<S.length)(f:k<S.length)(h:(S.getD j AA.d).c=(S.getD k AA.d).c):j=k:=by
 rcases N0 j k with e|e|e
 .exfalso;refine f22 a f ?_;rw[<-h];refine Js.2 ⟨S.getD j AA.d,?_,rfl⟩;rw[J5,J6 b];exact List.mem_take_iff_getElem.2 ⟨j,Dx,rfl⟩
 .exact e
 .exfalso;refine f22 a b ?_;rw[h];refine Js.2 ⟨S.getD k AA.d,?_,rfl⟩;rw[J5,J6 f];exact List.mem_take_iff_getElem.2 ⟨k,Dx,rfl⟩
section
variable{over:Bool}{S A:List Stk}{i k:Nat}
theorem d2v(nA:DC A)(hi:i<A.length)(f:k<(AX over S (A.take i)).length)(a:((AX over S (A.take i)).getD k AA.d).c=(A.getD i AA.d).c):k<S.length/\(S.getD k AA.d).c=(A.getD i AA.d).c/\(AX over S (A.take i)).getD k AA.d=S.getD k AA.d/\GG S (A.take i) k=true:=by
 have hx:=f22 nA hi;by_cases h:k<S.length
 .obtain⟨g1,g⟩:=@XH over (A.take i) S k h;have b:(S.getD k AA.d).c=(A.getD i AA.d).c:=g1.symm.trans a;have e:(S.getD k AA.d).c∉(A.take i).map (·.c):=by rw[b];exact hx
  exact⟨h,b,g e,SU.2 ⟨h,e⟩⟩
 .exfalso;have:=@c78 over (A.take i) S k Dx f;rw[a]at this;exact hx this
theorem f4s(h:DC S)(hi:i<A.length)(j:k<S.length)(g:(S.getD k AA.d).c=(A.getD i AA.d).c){q:Nat}:GG S (A.take (i+1)) q=(!decide (q=k)&&GG S (A.take i) q):=by
 rw[Ls,K6,SU,SU,IE (d:=AA.d) hi,Lq,Jt,not_or,Bool.not_eq_true',Lc];simp only[Kr,List.map_nil,Jw];constructor
 .rintro⟨b,a,f⟩;refine⟨λe=> ?_,b,a⟩;subst e;exact f g
 .rintro⟨b,a,f⟩;exact⟨a,f,λe=>b (nd_eq h a j (e.trans g.symm))⟩
theorem d14(hi:i<A.length)(f:∀j,j<(AX over S (A.take i)).length->((AX over S (A.take i)).getD j AA.d).c≠(A.getD i AA.d).c){q:Nat}:GG S (A.take (i+1)) q=GG S (A.take i) q:=by
 rw[Ls,SU,SU,IE (d:=AA.d) hi,Lq,Jt,not_or];simp only[Kr,List.map_nil,Jw];constructor
 .rintro⟨a,b,h3⟩;exact⟨a,b⟩
 .rintro⟨a,b⟩;refine⟨a,b,λe=> ?_⟩;have hl:=(@Ur over (A.take i) S).1;exact f q Dx (((@XH over (A.take i) S q a).1).trans e)
end
def Rw(hd:Nat->Value)(S:List Stk)(q:Nat):List SV:=[.int .i64 (S.getD q AA.d).c.x,.int .i64 (S.getD q AA.d).c.y,.int .u8 (S.getD q AA.d).c.q,.con (hd q)]
def GY(hd:Nat->Value)(S A M:List Stk)(q:Nat):List SV:=[.int .i64 (M.getD q AA.d).c.x,.int .i64 (M.getD q AA.d).c.y,.int .u8 (M.getD q AA.d).c.q,if GG S A q=true then .con (hd q)else .sl 1 (M.getD q AA.d).l.length (AC.row (M.getD q AA.d).l) none]
section
variable{over:Bool}{S A:List Stk}{hd:Nat->Value}
theorem f4k{q:Nat}:(if q<S.length/\GG S A q=true then(GY hd S A (AX over S A) q).set 3 (.sl 1 (S.getD q AA.d).l.length (AC.row (S.getD q AA.d).l) none)else GY hd S A (AX over S A) q)=AA.row (AX over S A) q:=by
 by_cases h:q<S.length/\GG S A q=true
 .rw[J7 h];have e:=(@XH over A S q h.1).2 (SU.1 h.2).2;unfold GY RT.row;rw[e];rfl
 .rw[J8 h];have a:¬GG S A q=true:=λk=>h ⟨(SU.1 k).1,k⟩;unfold GY RT.row;rw[J8 a];rfl
theorem d1q:(AA.lst (AX over S A).length λq=>if q<S.length/\GG S A q=true then(GY hd S A (AX over S A) q).set 3 (.sl 1 (S.getD q AA.d).l.length (AC.row (S.getD q AA.d).l) none)else GY hd S A (AX over S A) q)=AX over S A:=by have:(λq=>if q<S.length/\GG S A q=true then(GY hd S A (AX over S A) q).set 3 (.sl 1 (S.getD q AA.d).l.length (AC.row (S.getD q AA.d).l) none)else GY hd S A (AX over S A) q)=AA.row (AX over S A):=Nh λq=>f4k;rw[this,RT.lst_row]
theorem sel_is:AA.isL (AX over S A).length λq=>if q<S.length/\GG S A q=true then(GY hd S A (AX over S A) q).set 3 (.sl 1 (S.getD q AA.d).l.length (AC.row (S.getD q AA.d).l) none)else GY hd S A (AX over S A) q:=by have:(λq=>if q<S.length/\GG S A q=true then(GY hd S A (AX over S A) q).set 3 (.sl 1 (S.getD q AA.d).l.length (AC.row (S.getD q AA.d).l) none)else GY hd S A (AX over S A) q)=AA.row (AX over S A):=Nh λq=>f4k;rw[this];exact RT.isL_row AA _
theorem f5s(a:DC S)(nA:DC A){n:Nat}(d:∀s∈S,s.l.length<=n)(f:∀s∈A,s.l.length<=n):∀s∈AX over S A,s.l.length<=2*n:=by
 intro s hs;have e:=QV (c55 (over:=over) A S a) hs;rw[c4m A S s.c nA]at e;have len:∀(L:List Stk),(∀t∈L,t.l.length<=n)->DC L->(AY L s.c).length<=n:=λL g h=>by
  rcases RC L s.c with⟨t,b,e⟩|e
  .rw[<-e,QV h b];exact g t b
  .rw[e];simp
 have h1:=len S d a;have h2:=len A f nA;rw[<-e];unfold NN;split<;>rw[K5]<;>omega
end
end Go.Proofs.YtaihldljnlgnoaaGreatDoor.V
