/-
  Parts of the proof: A20 A21 C9a C9b C9c C9 C10 C11a C11 C12 C13 C14 C30 Y1 Y2 Y3 Y4 Y5 Y6 Y7. Conditions: none.
-/
import Derived.Test.YtaihldljnlgnoaaGreatDoorScc5
import Derived.Test.YtaihldljnlgnoaaGreatDoorScc7
import Derived.Test.YtaihldljnlgnoaaGreatDoorScc8
set_option maxRecDepth 100000
set_option maxHeartbeats 40000000
namespace Go.Proofs
open Go Go.Lib Go.RowKit Go.Shelf Go.Sort
shelf_lay_g SlLaysF0.n6 Slsf 6 at Tryz 106 as Tryz.sortKey
end Go.Proofs
namespace Go.Proofs.YtaihldljnlgnoaaGreatDoor.V
open Go
def capI:SV->Option (Prop×List Cl×Option Nat)
 |.rel 1 1 f 0 0=>match f 0 with
  | [.sl 3 n g a]=>some (f=(λ_=>[.sl 3 n g a])/\g=DE.row (DE.lst n g),DE.lst n g,a)
  |_=>none
 |_=>none
def Tz(l:List Cl)(a:Option Nat):SV:=.rel 1 1 (λ_=>[.sl 3 l.length (DE.row l) a]) 0 0
theorem c4i{s:SV}{q:Prop}{l:List Cl}{a:Option Nat}(h:capI s=some (q,l,a))(b:q):s=Tz l a:=by
 unfold capI at h;split at h
 .split at h
  .cases h;obtain⟨c,d⟩:=b;rw[c];unfold Tz;rw[RT.lst_length,<-d]
  .cases h
 .cases h
def XQ:SV->Option (Prop×Cl×SV)
 |.rel 4 1 f 0 0=>match f 0 with
  | [.int .i64 a,.int .i64 b,.int .u8 c,z]=>some (f=(λ_=>[.int .i64 a,.int .i64 b,.int .u8 c,z]),⟨a,b,c⟩,z)
  |_=>none
 |_=>none
def VM(c:Cl)(z:SV):SV:=.rel 4 1 (λ_=>[.int .i64 c.x,.int .i64 c.y,.int .u8 c.q,z]) 0 0
theorem c3z{s:SV}{q:Prop}{c:Cl}{z:SV}(h:XQ s=some (q,c,z))(a:q):s=VM c z:=by
 unfold XQ at h;split at h
 .split at h
  .cases h;rw[a];rfl
  .cases h
 .cases h
def OV(a:List Cl)(c:Cl)(v:Int):Bool:= !decide (a.getD v.toNat DE.d=c)
def b9b:AM
 | [.int .i64 v,s,t]=>match capI s,XQ t with
   |some (q,a,_),some (b,c,_)=>some ((q/\b)/\0<=v/\v<a.length,.bool (OV a c v))
   |_,_=>none
 |_=>none
def g0t:Fam:=⟨Int×(List Cl×Option Nat)×Cl×SV,λ(v,(a,b),c,z)=>[.int .i64 v,Tz a b,VM c z],λ(v,(a,_),_,_)=>0<=v/\v<a.length,λ(v,(a,_),c,_)=>.bool (OV a c v)⟩
theorem f9k:PS 128 b9b:=by
 refine con [] Dx g0t (λ_ _=>none) b9b ?_ ?_ Tryz.func128 Dw Dw Dw ?_
 .intro args pre s h a;unfold b9b at h;split at h
  .rename_i v x1 x2;split at h
   .rename_i q b d q' c z e f;cases h;rw[c4i e a.1.1,c3z f a.1.2];exact⟨(v,(b,d),c,z),⟨E4,by simp[Tz,SV.le2,SV.le1,SV.le0],by simp[VM,SV.le2,SV.le1,SV.le0],J5⟩,a.2,rfl⟩
   .cases h
  .cases h
 .exact C1
 .rintro⟨v,⟨b,d⟩,c,z⟩ a;replace a:0<=v/\v<b.length:=a;refine X0 _ ?_;(repeat' first|constructor|intro h)<;>refine Lm ?_
  all_goals(first
   |exact a
   |(show v.toNat<b.length;omega)
   |(simp only[OV,clEq];done)
   |skip)
def b9r:AM
 | [x,.clo g [s,t]]=>if g=128 then(match AC.as x,capI s,XQ t with
   |some (n,f),some (q,a,_),some (b,c,_)=>some ((q/\b)/\(AC.isL n f/\n<=100000)/\∀v∈AC.lst n f,0<=v/\v<a.length,.int .i64 (Ol (OV a c) (AC.lst n f)))
   |_,_,_=>none)else none
 |_=>none
def f6y:Fam:=⟨List Int×(List Cl×Option Nat)×Cl×SV,λ(l,(a,b),c,z)=>[.sl 1 l.length (AC.row l) none,.clo 128 [Tz a b,VM c z]],λ(l,(a,_),_,_)=>l.length<=100000/\∀v∈l,0<=v/\v<a.length,λ(l,(a,_),c,_)=>.int .i64 (Ol (OV a c) l)⟩
def f6a:List Int×(List Cl×Option Nat)×Cl×SV->Nat->Option Inv
 |(l,(a,b),c,z),2=>some {β:=Nat,ok:=λi=>i<=l.length/\∀j,j<i->OV a c (l.getD j 0)=false,st:=λi=>⟨[⟨8,none,.int .i64 i⟩,⟨7,none,.int .i64 l.length⟩,⟨1,none,.clo 128 [Tz a b,VM c z]⟩,⟨0,none,.sl 1 l.length (AC.row l) none⟩],[]⟩,μ:=λi=>l.length-i}
 |_,_=>none
theorem f6p:PS 169 b9r:=by
 refine con [(128,b9b)] (by simpa using f9k) f6y f6a b9r ?_ ?_ Tryz.func169 Dw Dw Dw ?_
 .intro args pre s h hp;unfold b9r at h;split at h
  .split at h
   .rename_i g;subst g;split at h
    .rename_i n f q im cp q' c z hx k m;cases h;rw[c4i k hp.1.1,c3z m hp.1.2];exact Dn
    .cases h
   .cases h
  .cases h
 .exact Bz
 .rintro⟨l,⟨im,cp⟩,c,z⟩ hp;replace hp:l.length<=100000/\∀v∈l,0<=v/\v<im.length:=hp;refine X0 _ ?_;(repeat' first|constructor|intro h)<;>refine Lm ?_
  refine⟨(0:Nat),⟨Je _,λj hj=>Dv⟩,?_,?_⟩
  .exact X0c
  .intro i o;obtain⟨dv,br⟩:=o;have b:i<l.length->0<=l.getD i AC.d/\l.getD i AC.d<im.length:=λh=>hp.2 _ (by
    rw[Ix,Iy h];exact K2 h)
   refine X0 _ ?_;(repeat' first|constructor|intro h)<;>refine Lm ?_
   all_goals(try simp only[Ia,RT.lst_row]at*)
   all_goals(first
    |exact Ap
    |rfl
    |exact⟨⟨⟨J5,J5⟩,J5⟩,b Dv⟩
    |exact⟨⟨⟨rfl,rfl⟩,rfl⟩,b Dv⟩
    |exact(c00 Dv br Dz).symm
    |(refine⟨i+1,⟨Dv,λj hj=> ?_⟩,E7,?_⟩)
    |exact Bq
    |skip)
   .by_cases e:j<i
    .exact br j e
    .have:j=i:=Dv;subst this;assumption
   .exact X0d
def b8z:AM
 | [x,.clo g [s,t]]=>if g=128 then(match AC.as x,capI s,XQ t with
   |some (n,f),some (q,a,_),some (b,c,_)=>some ((q/\b)/\(AC.isL n f/\n<=100000)/\∀v∈AC.lst n f,0<=v/\v<a.length,.bool ((AC.lst n f).any (OV a c)))
   |_,_,_=>none)else none
 |_=>none
def g02:Fam:=⟨List Int×(List Cl×Option Nat)×Cl×SV,λ(l,(a,b),c,z)=>[.sl 1 l.length (AC.row l) none,.clo 128 [Tz a b,VM c z]],λ(l,(a,_),_,_)=>l.length<=100000/\∀v∈l,0<=v/\v<a.length,λ(l,(a,_),c,_)=>.bool (l.any (OV a c))⟩
theorem g0q:PS 127 b8z:=by
 refine con [(169,b9r)] (by simpa using f6p) g02 (λ_ _=>none) b8z ?_ ?_ Tryz.func127 Dw Dw Dw ?_
 .intro args pre s h hp;unfold b8z at h;split at h
  .split at h
   .rename_i a;subst a;split at h
    .rename_i n f q im cp q' c z hx b d;cases h;rw[c4i b hp.1.1,c3z d hp.1.2];exact Dn
    .cases h
   .cases h
  .cases h
 .exact Bz
 .rintro⟨l,⟨im,cp⟩,c,z⟩ hp;replace hp:l.length<=100000/\∀v∈l,0<=v/\v<im.length:=hp;refine X0 _ ?_;(repeat' first|constructor|intro h)<;>refine Lm ?_
  all_goals(try simp only[RT.lst_row]at*)
  all_goals(first
   |exact⟨⟨⟨J5,J5⟩,J5⟩,⟨AC.isL_row l,hp.1⟩,hp.2⟩
   |exact⟨⟨⟨rfl,rfl⟩,rfl⟩,⟨AC.isL_row l,hp.1⟩,hp.2⟩
   |exact b8w _ _
   |skip)
theorem b7w{W H:Int}{L:List Stk}(h:JV W H L=0):AV W H=0/\(∀i,i<L.length->Kl (EA W H) L i=false)/\IL (BG L)=false/\EA W H<=(BG L).length:=by
 unfold JV at h;split at h
 .rename_i hs;split at h
  .cases h
  .rename_i a;split at h
   .cases h
   .rename_i b;split at h
    .cases h
    .refine⟨hs,λi c=> ?_,by simpa using b,Dv⟩;have:=Jg.1 (by simpa using a:(List.range L.length).any (Kl (EA W H) L)=false) i (Jn.2 c);simpa using this
 .rename_i hs;exact absurd h hs
theorem c17{W H:Int}{L:List Stk}(h:∀i,i<L.length->Kl (EA W H) L i=false):c3u W H L:=by intro j b v c;have a:=h j b;unfold Kl at a;rw[Kk]at a;have:=Jg.1 a.2 v c;simp[OP]at this;omega
theorem im_len{p:Pt}{r:Mv}(h:CH p r=0):((CF p r).length:Int)=EA p.W p.H:=by
 have c:BE p=0/\JC p=0:=by
  unfold CH at h;split at h
  .rename_i a;split at h
   .split at h
    .rename_i b;exact⟨a,b⟩
    .rename_i b;exact absurd h b
   .cases h
  .rename_i a;exact absurd h a
 have hs:=(FO c.1).1;have:=(c0d p).1 c.2;have:=(b0k h).1;have:=(b2v hs).2.2;omega
theorem b0j{p:Prop}[Decidable p]:((!decide p)=true)=¬p:=Dx
theorem b0i{p:Prop}[Decidable p]:((!decide p)=false)=p:=Dx
def Pj(a:List Cl)(s:Stk):Bool:=s.l.any (OV a s.c)
def Ql(c:Cl)(e:Nat):Bool:= !decide (GJ c.x c.y c.q e=0)
def Ps(s:Stk):Bool:=(List.range 3).any (Ql s.c)
def CS(p:Pt)(r:Mv)(L:List Stk):Int:=
 if CH p r=0 then(if JV p.W p.H L=0 then(if L.any (Pj (CF p r))then 6 else if L.any Ps then 3 else 0)else JV p.W p.H L)else CH p r
def FK(L:List Stk):Prop:=FN L/\(∀s∈L,AE .u8 s.c.q)/\(BG L).length<=100000
def XC:AM
 | [x,y,z]=>match Qy [x,y],KJ z with
   |some q,some s=>some (q.1/\s.1/\(∀t∈s.2,AE .u8 t.c.q)/\(BG s.2).length<=100000,.int .i64 (CS q.2.1 q.2.2 s.2))
   |_,_=>none
 |_=>none
def d2w:Fam:=⟨Pt×Mv×List Stk,λ(p,r,L)=>[Eo p,ID r,DJ L],λ(p,r,L)=>prOK p r/\FK L,λ(p,r,L)=>.int .i64 (CS p r L)⟩
def d63:Pt×Mv×List Stk->Nat->Option Inv
 |(p,r,L),8=>some {β:=Nat,ok:=λi=>i<=L.length/\∀j,j<i->Pj (CF p r) (L.getD j AA.d)=false,st:=λi=>⟨[⟨35,none,.int .i64 i⟩,⟨34,none,.int .i64 L.length⟩,⟨33,none,.sl 4 L.length (AA.row L) none⟩,⟨7,none,.own 2 0⟩,⟨6,none,.int .i64 0⟩,⟨2,none,.sl 4 L.length (AA.row L) none⟩],[.cells 29 [.int .i64 p.W,.int .i64 p.H,.sl 3 p.l.length (DZ p.l) none],.cells 31 [.int .u8 r.t,.int .i64 r.x,.int .i64 r.y],.cells 146 [.sl 3 (CF p r).length (DE.row (CF p r)) none]]⟩,μ:=λi=>L.length-i}
 |(_,_,L),14=>some {β:=Nat,ok:=λi=>i<=L.length/\∀j,j<i->Ps (L.getD j AA.d)=false,st:=λi=>⟨[⟨46,none,.int .i64 i⟩,⟨45,none,.int .i64 L.length⟩,⟨44,none,.sl 4 L.length (AA.row L) none⟩,⟨6,none,.int .i64 0⟩],[]⟩,μ:=λi=>L.length-i,sub:=λi=>some fun|17=>some {β:=Nat,ok:=λk=>k<=3/\∀j,j<k->Ql (L.getD i AA.d).c j=false,st:=λk=>⟨[⟨50,none,.int .u8 k⟩,⟨13,none,.own 0 0⟩,⟨46,none,.int .i64 i⟩,⟨45,none,.int .i64 L.length⟩,⟨44,none,.sl 4 L.length (AA.row L) none⟩,⟨6,none,.int .i64 0⟩],[.cells 41 [.int .i64 (L.getD i AA.d).c.x,.int .i64 (L.getD i AA.d).c.y,.int .u8 (L.getD i AA.d).c.q,.sl 1 (L.getD i AA.d).l.length (AC.row (L.getD i AA.d).l) none]]⟩,μ:=λk=>3-k}|_=>none}
 |_,_=>none
theorem c2p:PS 85 XC:=by
 refine con [(71,XY),(126,b4n),(127,b8z),(129,Vx)] (by simpa using⟨c4d,f00,g0q,b05⟩) d2w d63 XC ?_ ?_ Tryz.func85 Dw Dw Dw ?_
 .intro args pre s h hp;unfold XC at h;split at h
  .rename_i x y z;split at h
   .rename_i q t f g;cases h;obtain⟨q,p,r⟩:=q;obtain⟨u,L⟩:=t;obtain⟨a1,a2⟩:=c0f f hp.1;obtain⟨b1,b2⟩:=Oc g hp.2.1;exact Dp
   .cases h
  .cases h
 .exact C1
 .rintro⟨p,r,L⟩ ⟨A,m⟩;have hl:=m.1.1;refine X0 _ ?_;(repeat' first|constructor|intro h)<;>refine Lm ?_
  all_goals(try simp only[CU,RT.lst_row]at*)
  all_goals(try simp only[b0j,b0i]at*)
  all_goals(first
   |exact⟨⟨⟨FF _,A.1.1⟩,A.1.2⟩,A.2⟩
   |exact⟨NT L m.1,m.2⟩
   |skip)
  .have f:¬CH p r=0:=Dz;unfold CS;rw[J3 f]
  .have f:CH p r=0:=Dz;have g:¬JV p.W p.H L=0:=Dz;unfold CS;rw[Iz f,J3 g]
  .have f:CH p r=0:=Dz;have g:JV p.W p.H L=0:=Dz;have G:=c17 (b7w g).2.1;have h4:=im_len f;have hx:CS p r L=if L.any (Pj (CF p r))then 6 else if L.any Ps then 3 else 0:=by
    unfold CS;rw[Iz f,Iz g]
   refine⟨(0:Nat),⟨Je _,λj hj=>Dv⟩,?_,?_⟩
   .exact X0c
   .intro i n;obtain⟨I,o⟩:=n;have E:=Pw m.1 i;have J:i<L.length->∀v∈(L.getD i AA.d).l,0<=v/\v<(CF p r).length:=λn v K=>by
     have:=G i n v K;omega
    refine X0 _ ?_;(repeat' first|constructor|intro h)<;>refine Lm ?_
    all_goals(try simp only[Ia,RT.lst_row]at*)
    all_goals(first
     |exact Ap
     |skip)
    .refine⟨⟨⟨rfl,?_⟩,rfl⟩,⟨AC.isL_row _,E⟩,J Dv⟩;first|trivial|rfl|(rw[RT.lst_row])
    .have b:Pj (CF p r) (L.getD i AA.d)=true:=Dz;rw[hx,Iz];refine Jj.2 ⟨L.getD i AA.d,?_,b⟩;rw[Ix,Iy Dv];exact K2 _
    .have b:Pj (CF p r) (L.getD i AA.d)=false:=Dz;refine⟨i+1,⟨Dv,λj hj=> ?_⟩,Dv,?_⟩
     .by_cases e:j<i
      .exact o j e
      .have:j=i:=Dv;subst this;exact b
     .exact X0d
    .have B:L.any (Pj (CF p r))=false:=by
      rw[Jg];intro s hs;obtain⟨j,hj,rfl⟩:=Jw.1 hs;have:=o j Dv;rw[Ix,Iy hj]at this;simpa using this
     rw[J3 (by simp[B])]at hx;refine⟨(0:Nat),⟨Je _,λj hj=>Dv⟩,?_,?_⟩
     .exact X0d
     .intro i n;obtain⟨I,o⟩:=n;have E:=Pw m.1 i;have w:0<=(L.getD i AA.d).c.q/\(L.getD i AA.d).c.q<=255:=by
       rw[Ix];cases C:L[i]? with
       |none=>exact(by decide:(0:Int)<=0/\(0:Int)<=255)
       |some s=>exact m.2.1 s (J6 C)
      refine X0 _ ?_;(repeat' first|constructor|intro h)<;>refine Lm ?_
      all_goals(try simp only[Ia]at*)
      all_goals(first
       |exact Ap
       |skip)
      .refine⟨(0:Nat),⟨Je _,λj hj=>Dv⟩,?_,?_⟩
       .exact X0d
       .intro k C;obtain⟨gy,F⟩:=C;refine X0 _ ?_;(repeat' first|constructor|intro h)<;>refine Lm ?_
        all_goals(try simp only[Ia,b0j,b0i]at*)
        all_goals(first
         |omega
         |exact⟨w,Ff⟩
         |exact⟨w.1,w.2,Dv,Dv⟩
         |exact⟨w,Dv,Dv⟩
         |exact A7
         |skip)
        .have b:Ql (L.getD i AA.d).c k=true:=by
          have:¬GJ (L.getD i AA.d).c.x (L.getD i AA.d).c.y (L.getD i AA.d).c.q (k:Int)=0:=Dz;unfold Ql;rw[b0j];exact this
         rw[hx,Iz];refine Jj.2 ⟨L.getD i AA.d,?_,Jj.2 ⟨k,Jn.2 Dv,b⟩⟩;rw[Ix,Iy Dv];exact K2 _
        .have b:Ql (L.getD i AA.d).c k=false:=by
          have:GJ (L.getD i AA.d).c.x (L.getD i AA.d).c.y (L.getD i AA.d).c.q (k:Int)=0:=Dz;unfold Ql;rw[b0i];exact this
         refine⟨k+1,⟨Dv,λj hj=> ?_⟩,Dv,?_⟩
         .by_cases e:j<k
          .exact F j e
          .have:j=k:=Dv;subst this;exact b
         .exact X0d
        .have b:Ps (L.getD i AA.d)=false:=by
          unfold Ps;rw[Jg];intro j hj;have:=F j H6;rw[this];exact Bool.false_ne_true
         refine⟨i+1,⟨Dv,λj hj=> ?_⟩,Dv,?_⟩
         .by_cases e:j<i
          .exact o j e
          .have:j=i:=Dv;subst this;exact b
         .exact X0d
      .have B:L.any Ps=false:=by
        rw[Jg];intro s hs;obtain⟨j,hj,rfl⟩:=Jw.1 hs;have:=o j Dv;rw[Ix,Iy hj]at this;simpa using this
       rw[hx,J3 (by simp[B])]
def BO(c:Cl):List Int:=[c.y,c.x,c.q]
theorem VE(a b:Cl):FZ a.x a.y a.q b.x b.y b.q=BC (BO a) (BO b):=by
 simp only[FZ,Rh,BC,BO,CE];repeat' split
 all_goals(first|rfl|omega)
theorem b9d{a b:Cl}(h:BO a=BO b):a=b:=by simp only[BO,Ir]at h;exact Cl.ext' h.2.1 h.1 h.2.2
theorem c6t{L:List Stk}(h:∀i,0<i->i<L.length->BC (BO (L.getD (i-1) AA.d).c) (BO (L.getD i AA.d).c)<0):∀j i,i<j->j<L.length->BC (BO (L.getD i AA.d).c) (BO (L.getD j AA.d).c)<0
 |0,i,b,_=>Dv
 |j+1,i,b,f=>by
  have a:=h (j+1) Dv f;simp only[Ng]at a;by_cases e:i=j
  .subst e;exact a
  .exact Vm _ _ _ (c6t h j i Dv Dv) a
theorem b73:∀(n:Nat) (l:List Int),l.Nodup->(∀x∈l,0<=x/\x<n)->l.length<=n
 |0,[],_,_=>J9 _
 |0,x::l,_,h=>by have:=h x Dx;omega
 |n+1,l,a,h=>by
  by_cases e:(n:Int)∈l
  .have b:=b73 n (l.erase n) (a.erase _) (λx hx=>by
    have:=(List.Nodup.mem_erase_iff a).1 hx;have:=h x this.2;omega)
   rw[List.length_erase_of_mem e]at b;omega
  .have:=b73 n l a (λx hx=>by
    have:=h x hx;have:x≠n:=λc=>e (c▸hx);omega)
   omega
theorem b6c:∀{l:List Int},IL l=false->l.Nodup
 | [],_=>N8
 |x::l,h=>by simp only[IL,Kk]at h;exact Kw.2 ⟨by simpa using h.1,b6c h.2⟩
structure SkOK (p:Pt) (r:Mv) (L:List Stk):Prop where
 hs:AV p.W p.H=0
 P:PlOK p r
 lt:∀i j,i<j->j<L.length->BC (BO (L.getD i AA.d).c) (BO (L.getD j AA.d).c)<0
 vc:∀s∈L,vC s.c
 ne:∀s∈L,s.l≠[]
 nd:(BG L).Nodup
 rg:∀v∈BG L,0<=v/\v<4*p.W*p.H
 all:∀u:Int,0<=u->u<4*p.W*p.H->u∈BG L
 im:∀s∈L,∀v∈s.l,(CF p r).getD v.toNat DE.d=s.c
 nb:∀s∈L,∀e:Int,0<=e->e<3->GJ s.c.x s.c.y s.c.q e=0
theorem BW{α:Type}{l:List α}{i:Nat}{d:α}(h:i<l.length):l.getD i d∈l:=by rw[Ix,Iy h];exact K2 h
theorem HH{α:Type}{l:List α}{x d:α}(h:x∈l):∃i,i<l.length/\l.getD i d=x:=by obtain⟨i,a,e⟩:=Jw.1 h;exact⟨i,a,by rw[Ix,Iy a];exact e⟩
theorem Sb{p:Pt}{r:Mv}{L:List Stk}(h:CS p r L=0):CH p r=0/\JV p.W p.H L=0/\L.any (Pj (CF p r))=false/\L.any Ps=false:=by
 unfold CS at h;split at h
 .rename_i a;split at h
  .rename_i b;split at h
   .cases h
   .rename_i h3;split at h
    .cases h
    .rename_i h4;exact⟨a,b,Gf,Fe⟩
  .rename_i b;exact absurd h b
 .rename_i a;exact absurd h a
theorem d6b{p:Pt}{r:Mv}{L:List Stk}(h:CS p r L=0)(z:0<=r.t)(A:∀s∈L,AE .u8 s.c.q):SkOK p r L:=by
 obtain⟨B,C,E,F⟩:=Sb h;obtain⟨hs,n,G,hl⟩:=b7w C;have I:=c17 n;have hc:EA p.W p.H=4*p.W*p.H:=by simp[EA,hs]
 have hN:=CR hs;have o:=b6c G;have w:∀v∈BG L,0<=v/\v<4*p.W*p.H:=by intro v k;obtain⟨s,hs',J⟩:=Lt.1 k;obtain⟨i,a,rfl⟩:=HH (d:=AA.d) hs';have:=I i a v J;omega
 have b:∀i,i<L.length->(EY (L.getD i AA.d).c.x (L.getD i AA.d).c.y (L.getD i AA.d).c.q=0/\(0<i->BC (BO (L.getD (i-1) AA.d).c) (BO (L.getD i AA.d).c)<0))/\(L.getD i AA.d).l≠[]:=by
  intro i a;have:=n i a;unfold Kl at this;simp only[Kk,Lj,Bool.not_eq_false',Ig]at this;obtain⟨⟨⟨g1,f⟩,K⟩,_⟩:=this;refine⟨⟨g1,λm=> ?_⟩,λe=>K (by rw[e];rfl)⟩;rw[<-VE];have e:((i:Int)-1).toNat=i-1:=Dv;rw[e]at f;rcases f with f|f
  .exact absurd Dv f
  .omega
 refine⟨hs,PJ z B,λi j M N=>c6t (λi m a=>(b i a).1.2 m) j i M N,λs hs'=> ?_,λs hs'=> ?_,o,w,λu m hu=> ?_,λs hs' v k=> ?_,λs hs' e jr he=> ?_⟩
 .obtain⟨i,a,rfl⟩:=HH (d:=AA.d) hs';have g:=(b i a).1.1;have f:=A _ hs';simp only[AE]at f;unfold EY at g;split at g
  .unfold vC;omega
  .cases g
 .obtain⟨i,a,rfl⟩:=HH (d:=AA.d) hs';exact(b i a).2
 .apply Classical.byContradiction;intro O;have:=b73 (AJ p.W p.H) (u::BG L) (Kw.2 ⟨O,o⟩) (λx hx=>by
   rcases Jd.1 hx with rfl|hx
   .omega
   .have:=w x hx;omega)
  simp only[Kh]at this;omega
 .have:=Jg.1 E s hs';unfold Pj at this;have:=Jg.1 (by simpa using this:s.l.any (OV (CF p r) s.c)=false) v k;simpa[OV]using this
 .have:=Jg.1 F s hs';unfold Ps at this;have:=Jg.1 (by simpa using this:(List.range 3).any (Ql s.c)=false) e.toNat (Jn.2 Dv)
  have P:((e.toNat:Nat):Int)=e:=Dv;simpa[Ql,P]using this
def RM(h:List Int)(q:Int×Nat):List Int:=h.set q.1.toNat (q.2:Int)
def SG(L:List Stk):List (Int×Nat):=L.flatMap λs=>s.l.zipIdx
def IF(L:List Stk)(n:Nat):List Int:=(SG L).foldl RM (List.replicate n 0)
theorem b94:∀(l:List (Int×Nat)) (h:List Int),(l.foldl RM h).length=h.length
 | [],_=>rfl
 |q::l,h=>by rw[M1,b94 l];simp[RM]
theorem YC(L:List Stk)(n:Nat):(IF L n).length=n:=by simp[IF,b94]
theorem b7e:∀(l:List (Int×Nat)) (h:List Int) (v:Int),0<=v->(∀q∈l,0<=q.1/\q.1≠v)->(l.foldl RM h).getD v.toNat 0=h.getD v.toNat 0
 | [],_,_,_,_=>rfl
 |q::l,h,v,b,a=>by rw[M1,b7e l _ v b (λx hx=>a x Ef)];have:=a q Dx;have c:q.1.toNat≠v.toNat:=Dv;simp[RM,Jh c]
theorem c79:∀(l:List (Int×Nat)) (h:List Int),(l.map (·.1)).Nodup->(∀q∈l,0<=q.1/\q.1<h.length)->∀q∈l,(l.foldl RM h).getD q.1.toNat 0=q.2
 | [],_,_,_,q,a=>by simp at a
 |x::l,h,b,c,q,a=>by
  rw[M1];rw[Km,Kw]at b;rcases Jd.1 a with rfl|a
  .have hx:=c q Dx;rw[b7e l _ q.1 hx.1 (λy hy=>⟨(c y Fb).1,λe=>b.1 (Jp.2 ⟨y,hy,e⟩)⟩)];have:q.1.toNat<h.length:=Dv;simp[RM,this]
  .exact c79 l _ b.2 (λy hy=>by have:=c y Fb;simpa[RM]using this) q a
theorem c21(L:List Stk):(SG L).map (·.1)=BG L:=by unfold SG BG;rw[List.map_flatMap];congr 1;funext s;simp
section
variable{p:Pt}{r:Mv}{L:List Stk}
theorem f97(S:SkOK p r L){s:Stk}(hs:s∈L){k:Nat}(a:k<s.l.length):(IF L (AJ p.W p.H)).getD (s.l.getD k 0).toNat 0=k:=by
 have hN:=CR S.hs;have b:(s.l.getD k 0,k)∈SG L:=by refine Lt.2 ⟨s,hs,?_⟩;rw[List.mem_zipIdx_iff_getElem?];simp[a]
 have:=c79 (SG L) (List.replicate (AJ p.W p.H) 0) (by rw[c21];exact S.nd) (λq c=>by
  have d:q.1∈BG L:=by rw[<-c21];exact Jp.2 ⟨q,c,rfl⟩
  have:=S.rg _ d;simp;omega) _ b
 exact this
theorem YE(S:SkOK p r L){u:Int}(b:0<=u)(h:u<4*p.W*p.H):∃i k,i<L.length/\k<(L.getD i AA.d).l.length/\(L.getD i AA.d).l.getD k 0=u/\(CF p r).getD u.toNat DE.d=(L.getD i AA.d).c:=by obtain⟨s,hs,a⟩:=Lt.1 (S.all u b h);obtain⟨i,f,rfl⟩:=HH (d:=AA.d) hs;obtain⟨k,g,e⟩:=HH (d:=(0:Int)) a;exact⟨i,k,f,g,e,S.im _ hs _ a⟩
theorem f4e(S:SkOK p r L){u v:Int}(b:0<=u/\u<4*p.W*p.H)(c:0<=v/\v<4*p.W*p.H)(hi:(CF p r).getD u.toNat DE.d=(CF p r).getD v.toNat DE.d)
 (hh:(IF L (AJ p.W p.H)).getD u.toNat 0=(IF L (AJ p.W p.H)).getD v.toNat 0):u=v:=by
 obtain⟨i,k,a,g,e,l⟩:=YE S b.1 b.2;obtain⟨j,m,n,o,f,q⟩:=YE S c.1 c.2;rw[l,q]at hi;have s:i=j:=by
  rcases Lz i j with h|h|h
  .have:=S.lt i j h n;rw[hi,VU]at this;omega
  .exact h
  .have:=S.lt j i h a;rw[hi,VU]at this;omega
 subst s;have t:=f97 S (BW (d:=AA.d) a) g;have w:=f97 S (BW (d:=AA.d) a) o;rw[e]at t;rw[f]at w;have:k=m:=Dv;subst this;rw[<-e,<-f]
theorem f8i{m:Mv}{c:Cl}{e:Int}(a:vM m)(b:(-300<=c.x/\c.x<=300)/\(-300<=c.y/\c.y<=300)/\0<=c.q/\c.q<=3)(f:0<=e/\e<3):∃d,(0<=d/\d<3)/\Dl m (AQ c e)=AQ (Dl m c) d:=by
 have hb:=MM b.2.2 f;rw[JG a Dv,JG a Dv];obtain⟨X,Y,Q⟩:=c;simp only at b;refine⟨if e=0 then 0 else if m.t=0\/m.t=2\/m.t=5\/m.t=7 then e else 3-e,by split<;>(try split)<;>omega,?_⟩;rcases ET b.2.2 with rfl|rfl|rfl|rfl<;>rcases GI f with rfl|rfl|rfl<;>rcases FX a with h|h|h|h|h|h|h|h<;>rw[h]<;>
  (simp[AQ,sq,tq,EK,EL,EN,tb];try omega)
theorem UZ{c:Cl}{e a:Int}(b:0<=c.q/\c.q<=3)(d:0<=e/\e<3)(f:0<=a/\a<3)(h:AQ c e=AQ c a):e=a:=by obtain⟨X,Y,Q⟩:=c;simp only at b;rcases ET b with rfl|rfl|rfl|rfl<;>rcases GI d with rfl|rfl|rfl<;>rcases GI f with rfl|rfl|rfl<;>first|rfl|(exfalso;revert h;simp[AQ,EK,EL,EN,tb])
theorem UA{c:Cl}{e:Int}(a:0<=c.q/\c.q<=3)(b:0<=e/\e<3):AQ c e≠c:=by obtain⟨X,Y,Q⟩:=c;simp only at a;rcases ET a with rfl|rfl|rfl|rfl<;>rcases GI b with rfl|rfl|rfl<;>(intro h;revert h;simp[AQ,EK,EL,EN,tb])
def CW(p:Pt)(r:Mv)(u:Int):Cl:=(CF p r).getD u.toNat DE.d
def AD(p:Pt)(r:Mv)(u:Int):Mv:=(BL p r).getD u.toNat AH.d
def GG(p:Pt)(r:Mv)(u e:Int):Cl:=Dl (AD p r u) (AQ (AL p.W p.H u) e)
theorem WT(hs:AV p.W p.H=0){u:Int}(a:0<=u)(h:u<4*p.W*p.H):(-300<=(AL p.W p.H u).x/\(AL p.W p.H u).x<=300)/\(-300<=(AL p.W p.H u).y/\(AL p.W p.H u).y<=300)/\0<=(AL p.W p.H u).q/\(AL p.W p.H u).q<=3:=by have:=OW hs a h;omega
theorem UI(S:SkOK p r L){u:Int}(h0:0<=u)(h:u<4*p.W*p.H):CW p r u=Dl (AD p r u) (AL p.W p.H u)/\vM (AD p r u)/\vC (CW p r u):=by have hN:=CR S.hs;have a:=S.P.im u.toNat Dv;have e:((u.toNat:Nat):Int)=u:=Dv;rw[e]at a;exact⟨a.1,S.P.vm _ Dv,a.2⟩
theorem YF(S:SkOK p r L){u e:Int}(f:0<=u)(h:u<4*p.W*p.H)(m:0<=e/\e<3):vC (GG p r u e)/\GG p r u e≠CW p r u/\∃a,(0<=a/\a<3)/\GG p r u e=AQ (CW p r u) a:=by
 obtain⟨g1,n,l⟩:=UI S f h;obtain⟨a,c,o⟩:=f8i n (WT S.hs f h) m;have g:GG p r u e=AQ (CW p r u) a:=by rw[g1];exact o
 obtain⟨i,k,s,hk,hu,t⟩:=YE S f h;have b:=S.nb _ (BW (d:=AA.d) s) a c.1 c.2;rw[<-t]at b;refine⟨?_,?_,a,c,g⟩
 .rw[g];have hb:=MM l.2.2 c;unfold GJ at b;split at b
  .split at b
   .rename_i j;unfold EY at j;split at j
    .rename_i v;unfold vC;have:(AQ (CW p r u) a).x=EK (CW p r u).q a+(CW p r u).x:=rfl;have:(AQ (CW p r u) a).y=EL (CW p r u).q a+(CW p r u).y:=rfl;have h7: -4096<=EK (CW p r u).q a+(CW p r u).x/\EK (CW p r u).q a+(CW p r u).x<=4096/\ -4096<=EL (CW p r u).q a+(CW p r u).y/\EL (CW p r u).q a+(CW p r u).y<=4096/\EN (CW p r u).q a<=3:=v;omega
    .cases j
   .cases b
  .cases b
 .rw[g];exact UA l.2.2 c
theorem g0a(S:SkOK p r L){u e a:Int}(b:0<=u)(h:u<4*p.W*p.H)(d:0<=e/\e<3)(f:0<=a/\a<3)(g:GG p r u e=GG p r u a):e=a:=by obtain⟨g1,i,g3⟩:=UI S b h;have hc:=IA S.hs b h;have c:=WT S.hs b h;have b1:=MM c.2.2 d;have b2:=MM c.2.2 f;exact UZ c.2.2 d f (d13 i Fx Fx g)
end
def Ao(p:Pt)(r:Mv)(L:List Stk):Bd:=⟨p,BL p r,CF p r,IF L (AJ p.W p.H)⟩
def DY(b:Bd):Nat->List Sm
 |0=>[]
 |k+1=>GO b ((k/3:Nat):Int) ((k%3:Nat):Int) (DY b k)
def BJ(s:Sm)(d:Int):Cl:=if d=0 then s.a else s.b
def LC(s:Sm)(d:Int):Cl:=if d=0 then s.b else s.a
def AU(p:Pt)(u:Int):Prop:=0<=u/\u<4*p.W*p.H
def Vc(p:Pt)(r:Mv)(x y:Int)(c:Cl):Prop:=∃e,(0<=e/\e<3)/\GG p r x e=c/\AX p.W p.H x e=0/\y=AG p.W p.H x e
def PsOK(p:Pt)(r:Mv)(s:Sm)(x:Pa):Prop:=(AU p x.a/\AU p x.b)/\(CW p r x.a=s.a/\CW p r x.b=s.b)/\Vc p r x.a x.b s.b/\Vc p r x.b x.a s.a
def XJ(p:Pt)(r:Mv)(s:Sm)(x:Lo):Prop:=(x.s=0\/x.s=1)/\(AU p x.a/\AU p x.b)/\(CW p r x.a=BJ s x.s/\CW p r x.b=BJ s x.s)/\Vc p r x.a x.b (LC s x.s)/\Vc p r x.b x.a (LC s x.s)
structure SmOK (p:Pt) (r:Mv) (s:Sm):Prop where
 ab:BC (BO s.a) (BO s.b)<0
 va:vC s.a
 vb:vC s.b
 ps:∀x∈s.ps,PsOK p r s x
 ls:∀x∈s.ls,XJ p r s x
 en:∀x∈s.en,AU p x
section
variable{p:Pt}{r:Mv}{L:List Stk}
theorem imS_of(u:Int):CT (Ao p r L) u=CW p r u:=rfl
theorem f9t(S:SkOK p r L){u e:Int}(a:AU p u)(b:0<=e/\e<3):DR (Ao p r L) u e=GG p r u e:=by
 obtain⟨g1,g,g3⟩:=UI S a.1 a.2;obtain⟨i,_,_⟩:=YF S a.1 a.2 b;have j:=f5h S.hs a.1 a.2 b;have c:GJ (BZ p.W p.H u) (Bl p.W p.H u) (CB p.W p.H u) e=0:=j;have k:JM (BZ p.W p.H u) (Bl p.W p.H u) (CB p.W p.H u) e=(AQ (AL p.W p.H u) e).x:=by simp[JM,c,AQ,AL]
 have l:JO (BZ p.W p.H u) (Bl p.W p.H u) (CB p.W p.H u) e=(AQ (AL p.W p.H u) e).y:=by simp[JO,c,AQ,AL]
 have m:IK (BZ p.W p.H u) (Bl p.W p.H u) (CB p.W p.H u) e=(AQ (AL p.W p.H u) e).q:=by simp[IK,c,AQ,AL]
 have n:=WT S.hs a.1 a.2;have hb:=MM n.2.2 b;have o:EY (AQ (AL p.W p.H u) e).x (AQ (AL p.W p.H u) e).y (AQ (AL p.W p.H u) e).q=0:=Gi;have ed:EY (GG p r u e).x (GG p r u e).y (GG p r u e).q=0:=by unfold vC at i;unfold EY;rw[if_pos];omega
 have em:HO (AD p r u).t (AD p r u).x (AD p r u).y (AQ (AL p.W p.H u) e).x (AQ (AL p.W p.H u) e).y (AQ (AL p.W p.H u) e).q=0:=by unfold HO;rw[Iz ⟨g.2,o⟩,Iz];exact ed
 show (⟨keep _ _,keep _ _,keep _ _⟩:Cl)=_;simp only[Ao];rw[k,l,m];have f:HO ((BL p r).getD u.toNat AH.d).t ((BL p r).getD u.toNat AH.d).x ((BL p r).getD u.toNat AH.d).y (AQ (AL p.W p.H u) e).x (AQ (AL p.W p.H u) e).y (AQ (AL p.W p.H u) e).q=0:=em;simp only[keep,f,Ke];rfl
theorem f78{a b:Cl}(h:a≠b):BC (BO a) (BO b)<0\/BC (BO b) (BO a)<0:=by
 have:=JL (BO a) (BO b);by_cases e:BC (BO a) (BO b)=0
 .exact absurd (b9d (QK _ _ e)) h
 .omega
theorem lohi{x y:Cl}(h:x≠y):BC (BO (Oj x y)) (BO (OY x y))<0/\((Oj x y=x/\OY x y=y)\/(Oj x y=y/\OY x y=x)):=by
 unfold Oj OY;rw[VE];have:=JL (BO x) (BO y);rcases f78 h with a|a
 .rw[J3 Dv,J3 Dv];exact⟨a,.inl ⟨rfl,rfl⟩⟩
 .rw[Iz Dv,Iz Dv];exact⟨a,.inr ⟨rfl,rfl⟩⟩
theorem b6r{s t:Sm}(h:BN s=BN t):s.a=t.a/\s.b=t.b:=by simp only[BN,Ir]at h;exact⟨Cl.ext' h.1 h.2.1 h.2.2.1,Cl.ext' h.2.2.2.1 h.2.2.2.2.1 h.2.2.2.2.2⟩
theorem YP{S:List Sm}{q:List Int}(h:DU S q=true):BN (S.getD (CG S q) BB)=q:=by have a:=LA h;have:=List.findIdx_getElem (p:=λs=>decide (BN s=q)) (xs:=S) (w:=a);rw[Ix,Iy a];unfold CG;simpa using this
theorem c15(S:SkOK p r L){u e:Int}(a:AU p u)(b:0<=e/\e<3)(c:AX p.W p.H u e=0)(k:AW p u e=0):
 AU p (AG p.W p.H u e)/\CW p r (AG p.W p.H u e)=GG p r u e/\GG p r (AG p.W p.H u e) e=CW p r u/\AX p.W p.H (AG p.W p.H u e) e=0/\AG p.W p.H (AG p.W p.H u e) e=u:=by
 have hN:=CR S.hs;obtain⟨d,g⟩:=FL S.hs a.1 a.2 b c;have h:=Qx S.hs a.1 a.2 b c;have f:((u.toNat:Nat):Int)=u:=by have:=a.1;omega
 have i:=S.P.pass u.toNat e (by have:=a.1;have:=a.2;omega) b (by rw[f];exact c) (by rw[f];exact k);rw[f]at i;have j:AD p r (AG p.W p.H u e)=AD p r u:=i;have l:=(UI S d.1 d.2).1;have m:=(UI S a.1 a.2).1;refine⟨d,?_,?_,h.1,h.2⟩
 .rw[l,j,g];rfl
 .unfold GG;rw[j,g,RC (WT S.hs a.1 a.2).2.2 b,m]
theorem c1t(S:SkOK p r L){u e:Int}(a:AU p u)(b:0<=e/\e<3)(d:AX p.W p.H u e=0)(i:AW p u e≠0):
 AU p (AG p.W p.H u e)/\CW p r (AG p.W p.H u e)=CW p r u/\GG p r (AG p.W p.H u e) e=GG p r u e/\AX p.W p.H (AG p.W p.H u e) e=0/\AG p.W p.H (AG p.W p.H u e) e=u:=by
 have hN:=CR S.hs;obtain⟨j,g⟩:=FL S.hs a.1 a.2 b d;have h:=Qx S.hs a.1 a.2 b d;have f:((u.toNat:Nat):Int)=u:=by have:=a.1;omega
 have c:=S.P.loop u.toNat e (by have:=a.1;have:=a.2;omega) b (by rw[f];exact d) (by rw[f];exact i);rw[f]at c;obtain⟨c,k⟩:=c;refine⟨j,c,?_,h.1,h.2⟩;show Dl (AD p r (AG p.W p.H u e)) (AQ (AL p.W p.H (AG p.W p.H u e)) e)=Dl (AD p r u) (AQ (AL p.W p.H u) e);rw[g,RC (WT S.hs a.1 a.2).2.2 b,<-g];exact k
theorem add_ok(S:SkOK p r L){u e:Int}(g:AU p u)(f:0<=e/\e<3){s:Sm}(h:SmOK p r s)(A:(s.a=CW p r u/\s.b=GG p r u e)\/(s.a=GG p r u e/\s.b=CW p r u)):SmOK p r (GP (Ao p r L) u e s):=by
 have B:=(YF S g.1 g.2 f).2.1;unfold GP;show SmOK p r (if AX p.W p.H u e=0 then _ else _);split;rotate_left
 .exact⟨h.ab,h.va,h.vb,h.ps,h.ls,λx hx=>by
   rcases Jy.1 hx with hx|hx
   .exact h.en x hx
   .rw[Js.1 hx];exact g⟩
 rename_i j;show SmOK p r (if AG p.W p.H u e<u then _ else _);split
 .exact h
 rename_i b6;show SmOK p r (if AW p u e=0 then _ else _);split
 .rename_i z;obtain⟨g1,k,l,m,n⟩:=c15 S g f j z;refine⟨h.ab,h.va,h.vb,λx hx=> ?_,h.ls,h.en⟩;rcases Jy.1 hx with hx|hx
  .exact h.ps x hx
  .rw[Js]at hx;have hx:x=if CW p r u=s.b then⟨AG p.W p.H u e,u⟩else⟨u,AG p.W p.H u e⟩:=hx;rcases A with⟨i,c⟩|⟨i,c⟩
   .rw[J3 (by rw[c];exact λq=>B q.symm)]at hx;subst hx;exact⟨⟨g,g1⟩,⟨i.symm,k.trans c.symm⟩,⟨e,f,c.symm,j,rfl⟩,⟨e,f,l.trans i.symm,m,n.symm⟩⟩
   .rw[Iz c.symm]at hx;subst hx;exact⟨⟨g1,g⟩,⟨k.trans i.symm,c.symm⟩,⟨e,f,l.trans c.symm,m,n.symm⟩,⟨e,f,i.symm,j,rfl⟩⟩
 .rename_i z;obtain⟨g1,k,l,m,n⟩:=c1t S g f j z;refine⟨h.ab,h.va,h.vb,h.ps,λx hx=> ?_,h.en⟩;rcases Jy.1 hx with hx|hx
  .exact h.ls x hx
  .rw[Js]at hx;have o:∀d:Int,(d=0\/d=1)->BJ s d=CW p r u->LC s d=GG p r u e->XJ p r s ⟨d,u,AG p.W p.H u e⟩/\XJ p r s ⟨d,AG p.W p.H u e,u⟩:=λd C w y=>
    ⟨⟨C,⟨g,g1⟩,⟨w.symm,k.trans w.symm⟩,⟨e,f,y.symm,j,rfl⟩,⟨e,f,l.trans y.symm,m,n.symm⟩⟩,
     ⟨C,⟨g1,g⟩,⟨k.trans w.symm,w.symm⟩,⟨e,f,l.trans y.symm,m,n.symm⟩,⟨e,f,y.symm,j,rfl⟩⟩⟩
   have hx:x=⟨if CW p r u=s.b then 1 else 0,if(Ao p r L).ht.getD u.toNat 0<(Ao p r L).ht.getD (AG p.W p.H u e).toNat 0 then u else AG p.W p.H u e,if(Ao p r L).ht.getD u.toNat 0<(Ao p r L).ht.getD (AG p.W p.H u e).toNat 0 then AG p.W p.H u e else u⟩:=hx;have t:XJ p r s ⟨if CW p r u=s.b then 1 else 0,u,AG p.W p.H u e⟩/\XJ p r s ⟨if CW p r u=s.b then 1 else 0,AG p.W p.H u e,u⟩:=by
    rcases A with⟨i,c⟩|⟨i,c⟩
    .rw[J3 (by rw[c];exact λq=>B q.symm)];exact o 0 (.inl rfl) (by simp[BJ,i]) (by simp[LC,c])
    .rw[Iz c.symm];exact o 1 (.inr rfl) (by simp[BJ,c]) (by simp[LC,i])
   rcases Classical.em ((Ao p r L).ht.getD u.toNat 0<(Ao p r L).ht.getD (AG p.W p.H u e).toNat 0)with v|v
   .rw[Iz v,Iz v]at hx;rw[hx];exact t.1
   .rw[J3 v,J3 v]at hx;rw[hx];exact t.2
theorem at_ok(S:SkOK p r L){u e:Int}(f:AU p u)(i:0<=e/\e<3){T:List Sm}(h:∀s∈T,SmOK p r s):(∀s∈Co T (CW p r u) (GG p r u e),SmOK p r s)/\
 ∀s,BN s=HM (CW p r u) (GG p r u e)->(s.a=CW p r u/\s.b=GG p r u e)\/(s.a=GG p r u e/\s.b=CW p r u):=by
 have l:=(YF S f.1 f.2 i).2.1;have g:=lohi (Ne.symm l);have j:=(UI S f.1 f.2).2.2;have k:=(YF S f.1 f.2 i).1;refine⟨λs hs=> ?_,λs hs=> ?_⟩
 .unfold Co at hs;split at hs
  .exact h s hs
  .rcases Jy.1 hs with hs|hs
   .exact h s hs
   .rw[Js.1 hs];refine⟨g.1,?_,?_,λx hx=>by simp at hx,λx hx=>by simp at hx,λx hx=>by simp at hx⟩
    .rcases g.2 with⟨c,d⟩|⟨c,d⟩
     .show vC (Oj _ _);rw[c];exact j
     .show vC (Oj _ _);rw[c];exact k
    .rcases g.2 with⟨c,d⟩|⟨c,d⟩
     .show vC (OY _ _);rw[d];exact k
     .show vC (OY _ _);rw[d];exact j
 .obtain⟨c,d⟩:=b6r (t:=⟨Oj (CW p r u) (GG p r u e),OY (CW p r u) (GG p r u e),[],[],[]⟩) hs;rw[c,d];exact g.2
theorem mem_set{α:Type}{l:List α}{i:Nat}{x y:α}(h:y∈l.set i x):y=x\/y∈l:=by
 rcases M3 h with h|h
 .exact .inr h
 .exact .inl h
theorem f7m(S:SkOK p r L){u e:Int}(a:AU p u)(b:0<=e/\e<3){T:List Sm}(h:∀s∈T,SmOK p r s):∀s∈GO (Ao p r L) u e T,SmOK p r s:=by
 intro s hs;unfold GO at hs;rw[imS_of,f9t S a b]at hs;obtain⟨c,f⟩:=at_ok S a b h;have d:=QE T (CW p r u) (GG p r u e);have g:=YP d;rcases mem_set hs with rfl|hs
 .exact add_ok S a b (c _ (BW (LA d))) (f _ g)
 .exact c s hs
theorem Xl(S:SkOK p r L):∀k,k<=3*AJ p.W p.H->∀s∈DY (Ao p r L) k,SmOK p r s
 |0,_,s,hs=>by simp[DY]at hs
 |k+1,hk,s,hs=>by have hN:=CR S.hs;exact f7m S (u:=((k/3:Nat):Int)) (e:=((k%3:Nat):Int)) ⟨Dv,Dv⟩ ⟨Dv,Dv⟩ (Xl S k Dv) s hs
theorem d27(S:SkOK p r L){x y z:Int}{c:Cl}(hx:AU p x)(a:Vc p r x y c)(b:Vc p r x z c):y=z:=by obtain⟨e,d,o1,_,rfl⟩:=a;obtain⟨e',f,o2,_,rfl⟩:=b;rw[g0a S hx.1 hx.2 d f (o1.trans o2.symm)]
theorem ps_inj(S:SkOK p r L){s:Sm}(h:SmOK p r s):∀x∈s.ps,∀y∈s.ps,Oz (IF L (AJ p.W p.H)) x=Oz (IF L (AJ p.W p.H)) y->x=y:=by intro x hx y g e;obtain⟨⟨c,a2⟩,⟨i,i2⟩,g1,_⟩:=h.ps x hx;obtain⟨⟨j,b2⟩,⟨k,j2⟩,d,_⟩:=h.ps y g;simp only[Oz,Ir]at e;have b:x.a=y.a:=f4e S c j (show CW p r x.a=CW p r y.a by rw[i,k]) e;rw[<-b]at d;have f:=d27 S c g1 d;cases x;cases y;simp only at b f;rw[b,f]
theorem ls_inj(S:SkOK p r L){s:Sm}(h:SmOK p r s):∀x∈s.ls,∀y∈s.ls,Pr (IF L (AJ p.W p.H)) x=Pr (IF L (AJ p.W p.H)) y->x=y:=by intro x hx y i e;obtain⟨_,⟨d,a2⟩,⟨j,i2⟩,g1,_⟩:=h.ls x hx;obtain⟨_,⟨k,b2⟩,⟨l,j2⟩,f,_⟩:=h.ls y i;simp only[Pr,Ir]at e;obtain⟨b,e⟩:=e;have c:x.a=y.a:=f4e S d k (show CW p r x.a=CW p r y.a by rw[j,l,b]) e;rw[<-c,<-b]at f;have g:=d27 S d g1 f;cases x;cases y;simp only at c g b;rw[c,g,b]
theorem d5w(T:List Sm)(x y:Cl):(Co T x y).length<=T.length+1:=by unfold Co;split<;>simp
def RK(s:Sm)(k:Nat):Prop:=s.ps.length<=k/\s.ls.length<=k/\s.en.length<=k
theorem d8f{b:Bd}{u e:Int}{s:Sm}{k:Nat}(h:RK s k):RK (GP b u e s) (k+1):=by
 unfold RK at*;unfold GP;repeat' split
 all_goals(try simp only[Ip])
 all_goals omega
theorem Tv(b:Bd):∀k,(DY b k).length<=k/\∀s∈DY b k,RK s k
 |0=>⟨J9 _,λs hs=>by simp[DY]at hs⟩
 |k+1=>by
  obtain⟨h1,a⟩:=Tv b k;have c:∀s∈Co (DY b k) (CT b ((k/3:Nat):Int)) (DR b ((k/3:Nat):Int) ((k%3:Nat):Int)),RK s k:=by
   intro s hs;unfold Co at hs;split at hs
   .exact a s hs
   .rcases Jy.1 hs with hs|hs
    .exact a s hs
    .rw[Js.1 hs];exact⟨Je _,Je _,Je _⟩
  refine⟨?_,λs hs=> ?_⟩
  .show (GO _ _ _ _).length<=_;rw[Va];have:=d5w (DY b k) (CT b ((k/3:Nat):Int)) (DR b ((k/3:Nat):Int) ((k%3:Nat):Int));omega
  .have hs:s∈GO b ((k/3:Nat):Int) ((k%3:Nat):Int) (DY b k):=hs;unfold GO at hs;rcases mem_set hs with rfl|hs
   .exact d8f (c _ (BW (LA (QE _ _ _))))
   .have:=c s hs;unfold RK at*;omega
theorem d4d(S:SkOK p r L){s:Sm}(h:SmOK p r s)(b:RK s 100000):c9e (Ao p r L) s:=by
 have hN:=CR S.hs;refine⟨b,⟨λx hx=> ?_,λx hx=> ?_⟩,ps_inj S h,ls_inj S h⟩
 .have:=(h.ps x hx).1.1;unfold AU at this;show 0<=x.a/\x.a<((IF L (AJ p.W p.H)).length:Int);rw[YC];omega
 .have:=(h.ls x hx).2.1.1;unfold AU at this;show 0<=x.a/\x.a<((IF L (AJ p.W p.H)).length:Int);rw[YC];omega
end
section
open Go.Sort Go.Proofs Go.Shelf
def WQ:AM
 | [.agg [.int .i64 a,.int .i64 b,.int .u8 c,.int .i64 d,.int .i64 e,.int .u8 f],.agg [.int .i64 i,.int .i64 j,.int .u8 g,.int .i64 k,.int .i64 l,.int .u8 h]]=>some ((AE .u8 c/\AE .u8 f)/\AE .u8 g/\AE .u8 h,.int .i64 (LU [FZ a b c i j g,FZ d e f k l h]))
 |_=>none
def FOf1:Fam:=⟨(Int×Int×Int×Int×Int×Int)×Int×Int×Int×Int×Int×Int,λ((a,b,c,d,e,f),i,j,g,k,l,h)=>[.agg [.int .i64 a,.int .i64 b,.int .u8 c,.int .i64 d,.int .i64 e,.int .u8 f],.agg [.int .i64 i,.int .i64 j,.int .u8 g,.int .i64 k,.int .i64 l,.int .u8 h]],
 λ((_,_,c,_,_,f),_,_,g,_,_,h)=>(AE .u8 c/\AE .u8 f)/\AE .u8 g/\AE .u8 h,λ((a,b,c,d,e,f),i,j,g,k,l,h)=>.int .i64 (LU [FZ a b c i j g,FZ d e f k l h])⟩
theorem pOf1:PS 107 WQ:=by
 refine con [(100,SB),(108,Yc)] (by simpa using⟨b11,pOrL⟩) FOf1 (λ_ _=>none) WQ ?_ ?_ Tryz.func107 Dw Dw Dw ?_
 .intro args pre s h g;unfold WQ at h;split at h
  .rename_i a b c d e f l m j n o k;cases h;exact⟨((a,b,c,d,e,f),l,m,j,n,o,k),by simp[FOf1,BM,SV.le2,SV.le1,BH,SV.le0],g,rfl⟩
  .cases h
 .exact Bz
 .rintro⟨⟨a,b,c,d,e,f⟩,l,m,j,n,o,k⟩ g;replace g:(AE .u8 c/\AE .u8 f)/\AE .u8 j/\AE .u8 k:=g;refine X0 _ ?_;(repeat' first|constructor|intro h)<;>refine Lm ?_
  all_goals(first
   |exact⟨g.1.1,g.2.1⟩
   |exact⟨g.1.2,g.2.2⟩
   |rfl
   |exact⟨λi q=>match i,q with
    |0,_=>rfl
    |1,_=>rfl,Dv⟩
   |omega
   |skip)
def OL(k:Ky):List Int:=BO k.a++BO k.b
theorem d5h{x y:Ky}(h:OL x=OL y):x=y:=by simp only[OL,BO,M5,N1,Ir]at h;cases x;cases y;simp only at h;rw[Cl.ext' h.2.1 h.1 h.2.2.1,Cl.ext' h.2.2.2.2.1 h.2.2.2.1 h.2.2.2.2.2]
theorem c34:∀(a b c d:List Int),a.length=b.length->BC (a++c) (b++d)=if BC a b=0 then BC c d else BC a b
 | [],[],c,d,_=>by simp[BC]
 |x::a,y::b,c,d,h=>by
  by_cases e:x=y
  .simp only[M5,BC,e,Ke];exact c34 a b c d E2
  .have f:CE x y≠0:=by unfold CE;split<;>(try split)<;>omega
   simp[BC,e,f]
 | [],_::_,_,_,h=>E6
 |_::_,[],_,_,h=>E6
theorem g1z(x y:Ky):LU [FZ x.a.x x.a.y x.a.q y.a.x y.a.y y.a.q,FZ x.b.x x.b.y x.b.q y.b.x y.b.y y.b.q]=BC (OL x) (OL y):=by
 rw[VE,VE,OL,OL,c34 (BO x.a) (BO y.a) (BO x.b) (BO y.b) rfl];simp only[LU];split
 .split<;>simp_all
 .rfl
def kyQ(k:Ky):Prop:=AE .u8 k.a.q/\AE .u8 k.b.q
def b9p:LD:=λ_ b n g a=>match a with
 | [.clo f []]=>if f=107/\b=6 then some (HA.is n g/\n<=100000/\(∀x∈HA.lst n g,kyQ x),HA.row (GZ OL (HA.lst n g)),false)else none
 |_=>none
theorem g1d:ES 106 b9p:=by
 refine g22 HA Tryz.sortKey rfl ⟨_,Tryz.func106,Dw,Dw⟩ (λw=>Tryz.isAgg193 w) (λw=>Tryz.sizeOf193 w) (λ_=>rfl) (λx s hs=> ?_) WQ pOf1 (enters_of Tryz.func107 Dw rfl) b9p ?_
 .simp[HA]at hs;rcases hs with rfl|rfl|rfl|rfl|rfl|rfl<;>exact⟨_,_,rfl⟩
 .intro T sz n g rest pre g' r h;unfold b9p at h;split at h;rotate_left
  .cases h
  rename_i f;split at h;rotate_left
  .cases h
  rename_i d;obtain⟨rfl,rfl⟩:=d;cases h;refine⟨rfl,rfl,[],OL,rfl,λc=>⟨c.1,c.2.1,λx hx y i=> ?_,λx _ y _ e=>d5h e,rfl⟩⟩;refine⟨(AE .u8 x.a.q/\AE .u8 x.b.q)/\AE .u8 y.a.q/\AE .u8 y.b.q,?_,c.2.2 x hx,c.2.2 y i⟩;show WQ [.agg [.int .i64 x.a.x,.int .i64 x.a.y,.int .u8 x.a.q,.int .i64 x.b.x,.int .i64 x.b.y,.int .u8 x.b.q],.agg [.int .i64 y.a.x,.int .i64 y.a.y,.int .u8 y.a.q,.int .i64 y.b.x,.int .i64 y.b.y,.int .u8 y.b.q]]=_;simp only[WQ,g1z]
def KX(s:Sm):List SV:=[.int .i64 s.a.x,.int .i64 s.a.y,.int .u8 s.a.q,.int .i64 s.b.x,.int .i64 s.b.y,.int .u8 s.b.q,.sl 2 s.ps.length (BT.row s.ps) none,.sl 3 s.ls.length (CA.row s.ls) none,.sl 1 s.en.length (AC.row s.en) none]
def smRd:List SV->Sm
 | [.int _ a,.int _ b,.int _ c,.int _ d,.int _ e,.int _ f,x,y,z]=>⟨⟨a,b,c⟩,⟨d,e,f⟩,match BT.as x with|some (n,f)=>BT.lst n f|none=>[],match CA.as y with|some (n,f)=>CA.lst n f|none=>[],match AC.as z with|some (n,f)=>AC.lst n f|none=>[]⟩
 |_=>BB
theorem f6g(s:Sm):smRd (KX s)=s:=by have a:BT.as (.sl 2 s.ps.length (BT.row s.ps) none)=some (s.ps.length,BT.row s.ps):=rfl;have b:CA.as (.sl 3 s.ls.length (CA.row s.ls) none)=some (s.ls.length,CA.row s.ls):=rfl;have c:AC.as (.sl 1 s.en.length (AC.row s.en) none)=some (s.en.length,AC.row s.en):=rfl;simp only[smRd,KX,a,b,c,RT.lst_row]
def GA:RT Sm:=⟨9,KX,smRd,BB,f6g⟩
def DW(p:Pt)(r:Mv)(L:List Stk):List Sm:=if CS p r L=0 then
    (GZ OL ((DY (Ao p r L) (3*AJ p.W p.H)).map GC)).map λk=>JK (Ao p r L) ((DY (Ao p r L) (3*AJ p.W p.H)).getD (CG (DY (Ao p r L) (3*AJ p.W p.H)) (BN (sN k.a k.b))) BB)
 else []
end
def rSeOf(p:Pt)(r:Mv)(L:List Stk):SV:=.tup [.sl 9 (DW p r L).length (GA.row (DW p r L)) none,.int .i64 (CS p r L)]
def d94:AM
 | [x,y,z]=>match Qy [x,y],KJ z with
   |some q,some s=>some (q.1/\s.1/\(∀t∈s.2,AE .u8 t.c.q)/\(BG s.2).length<=100000,rSeOf q.2.1 q.2.2 s.2)
   |_,_=>none
 |_=>none
def FSeOf:Fam:=⟨Pt×Mv×List Stk,λ(p,r,L)=>[Eo p,ID r,DJ L],λ(p,r,L)=>prOK p r/\FK L,λ(p,r,L)=>rSeOf p r L⟩
def RH(L:List Stk)(i k:Nat):List (Int×Nat):=SG (L.take i)++((L.getD i AA.d).l.zipIdx).take k
def MK(L:List Stk)(n i k:Nat):List Int:=(RH L i k).foldl RM (List.replicate n 0)
theorem b6p(L:List Stk)(n i k:Nat):(MK L n i k).length=n:=by simp[MK,b94]
theorem c7n(L:List Stk)(i:Nat):RH L i 0=SG (L.take i):=by simp[RH]
theorem d88{L:List Stk}{i:Nat}(hi:i<L.length):RH L i (L.getD i AA.d).l.length=RH L (i+1) 0:=by
 rw[c7n];have:L.take (i+1)=L.take i++[L.getD i AA.d]:=by rw[M0];simp[hi]
 rw[this];unfold RH SG;rw[List.flatMap_append];have e:List.take (L.getD i AA.d).l.length (L.getD i AA.d).l.zipIdx=(L.getD i AA.d).l.zipIdx:=L6 Dx;rw[e];simp
theorem f17{L:List Stk}{n i k:Nat}(a:k<(L.getD i AA.d).l.length):MK L n i (k+1)=(MK L n i k).set ((L.getD i AA.d).l.getD k 0).toNat (k:Int):=by
 have:RH L i (k+1)=RH L i k++[((L.getD i AA.d).l.getD k 0,k)]:=by unfold RH;rw[M0,<-M8];congr 1;rw[List.getElem?_zipIdx,Iy a,Ix (l:=(L.getD i AA.d).l),Iy a];simp
 unfold MK;rw[this,List.foldl_append];rfl
theorem g0n(L:List Stk)(n:Nat):MK L n L.length 0=IF L n:=by unfold MK IF;rw[c7n,L6 (J9 _)]
def d6d(p:Pt)(r:Mv)(b:List Int)(S:List Sm)(ks:SV)(a:List Blk):List Blk:=.cells 29 [.int .i64 p.W,.int .i64 p.H,.sl 3 p.l.length (DZ p.l) none]::.cells 31 [.int .u8 r.t,.int .i64 r.x,.int .i64 r.y]::.row 3 1 b.length (AC.row b) none::
 .pmap (.ints [.i64,.i64,.u8,.i64,.i64,.u8]) 5 (DU S) (CG S)::
 .cells 188 [.int .i64 p.W,.int .i64 p.H,.sl 3 p.l.length (DZ p.l) none,.sl 3 (BL p r).length (AH.row (BL p r)) none,.sl 3 (CF p r).length (DE.row (CF p r)) none,.osl 2,.omp 3,ks]::
 .fam 156 [(229,2),(158,3),(3,1)] S.length none (λi=>Jo (S.getD i BB))::a
theorem d7x{L:List Stk}{n i:Nat}(hi:i<L.length):MK L n i (L.getD i AA.d).l.length=MK L n (i+1) 0:=by unfold MK;rw[d88 hi]
theorem c50{l:List Int}{m:Nat}{x:Int}(h:m<l.length)(j:Nat):DC (decide (j=m)) [SV.int .i64 x] (AC.row l j)=AC.row (l.set m x) j:=by
 by_cases e:j=m
 .rw[Jf e,b17 AC h e];rfl
 .rw[Ji e,b3m AC e];rfl
theorem d5i(S:List Sm):HA.lst S.length (KB S)=S.map GC:=by have h:KB S=HA.row (S.map GC):=Mw (d6y S);have:=RT.lst_row HA (S.map GC);rw[h];simpa using this
theorem c75(s:Sm):BN (sN (GC s).a (GC s).b)=BN s:=rfl
theorem b2u(b:Bd):∀k,((DY b k).map BN).Nodup
 |0=>N8
 |k+1=>by
  have a:=b2u b k;show ((GO b _ _ _).map BN).Nodup;rw[b48];unfold Co;split
  .exact a
  .rename_i h;rw[Lk];refine N5.2 ⟨a,Dx,λx hx y c e=> ?_⟩;simp only[Km,List.map_nil,Js]at c;subst e;subst c;apply h;rw[Tk];exact Jj.2 ⟨_,hx,by simp[HM]⟩
def IM(b:Bd)(S:List Sm)(K:List Ky):Nat->List Sm
 |0=>S
 |i+1=>(IM b S K i).set (CG (IM b S K i) (BN (sN (K.getD i HA.d).a (K.getD i HA.d).b))) (JK b ((IM b S K i).getD (CG (IM b S K i) (BN (sN (K.getD i HA.d).a (K.getD i HA.d).b))) BB))
def EH(p:Pt)(r:Mv)(L:List Stk):List Sm:=DY (Ao p r L) (3*AJ p.W p.H)
def DX(p:Pt)(r:Mv)(L:List Stk):List Ky:=GZ OL ((EH p r L).map GC)
section
variable{b:Bd}{S:List Sm}{K:List Ky}
def qK(K:List Ky)(i:Nat):List Int:=BN (sN (K.getD i HA.d).a (K.getD i HA.d).b)
theorem b53:∀i,(IM b S K i).map BN=S.map BN
 |0=>rfl
 |i+1=>by show ((IM b S K i).set _ _).map BN=_;rw[b2a _ _ _ (c97 b _),b53 i]
theorem c8n(i:Nat):(IM b S K i).length=S.length:=by simpa using Mc List.length (b53 (b:=b) (S:=S) (K:=K) i)
theorem f05(i:Nat)(q:List Int):DU (IM b S K i) q=DU S q:=by rw[Tk,Tk,b53]
theorem b30(i:Nat)(q:List Int):CG (IM b S K i) q=CG S q:=by rw[WM,WM,b53]
theorem b9c(a:∀i,i<K.length->DU S (qK K i)=true)(d:∀i j,i<j->j<K.length->qK K i≠qK K j):∀i j,i<=j->j<K.length->(IM b S K i).getD (CG S (qK K j)) BB=S.getD (CG S (qK K j)) BB
 |0,j,_,_=>rfl
 |i+1,j,h1,c=>by
  show ((IM b S K i).set (CG (IM b S K i) (qK K i)) _).getD _ _=_;have f:=a i Dv;have k:CG (IM b S K i) (qK K i)<(IM b S K i).length:=by rw[b30,c8n];exact LA f
  rw[b1d k,b30,J3,b9c a d i j Dv c];intro e;have l:=YP f;have g:=YP (a j c);rw[e]at g;exact d i j Dv c (l.symm.trans g)
end
theorem b3b(b:Bd){u e:Nat}(he:e<3):DY b (3*u+e+1)=GO b (u:Int) (e:Int) (DY b (3*u+e)):=by show GO b _ _ _=_;rw[show (3*u+e)/3=u from Dv,show (3*u+e)%3=e from Dv]
section
variable{p:Pt}{r:Mv}{L:List Stk}
theorem b4f{k:Ky}:k∈DX p r L↔∃s∈EH p r L,GC s=k:=by unfold DX;rw[QJ,Jp]
theorem VV{i:Nat}(h:i<(DX p r L).length):DU (EH p r L) (qK (DX p r L) i)=true:=by obtain⟨s,hs,e⟩:=b4f.1 (BW (d:=HA.d) h);unfold qK DU;rw[<-e];exact Jj.2 ⟨s,hs,by simp[c75]⟩
theorem qK_inj{x y:Ky}(h:BN (sN x.a x.b)=BN (sN y.a y.b)):x=y:=by obtain⟨c,d⟩:=b6r h;cases x;cases y;simp only at c d;rw[c,d]
theorem d4v{i j:Nat}(d:i<j)(c:j<(DX p r L).length):qK (DX p r L) i≠qK (DX p r L) j:=by
 have f:(DX p r L).Nodup:=by
  have g:((EH p r L).map GC).Nodup:=by
   have:=b2u (Ao p r L) (3*AJ p.W p.H);have e:((EH p r L).map GC).map (λk=>BN (sN k.a k.b))=(EH p r L).map BN:=by rw[Ma];rfl
   have c:(((EH p r L).map GC).map (λk=>BN (sN k.a k.b))).Nodup:=by rw[e];exact this
   exact(L4.1 c).imp (λl e=>l (by rw[e]))
  exact(Uy _ _).nodup_iff.2 g
 intro e;have:=qK_inj e;rw[Ix,Ix,Iy Dv,Iy c]at this;exact(K8.1 (show List.Pairwise (λx y=>x≠y) _ from f)) i j Dv c d this
theorem f9y(S:SkOK p r L)(a:prOK p r){k u e:Nat}(hk:k<=3*AJ p.W p.H)(jm:u<AJ p.W p.H)(he:e<3):bdIn (Ao p r L) (DY (Ao p r L) k) (u:Int) (e:Int):=by
 have hN:=CR S.hs;have hs:=Tv (Ao p r L) k;refine⟨a.1,⟨Dv,Dv⟩,⟨Dv,?_,?_,?_⟩,λb=> ?_,c2c a.2.1,λc f=> ?_,Dv,λs h=> ?_⟩
 .show (u:Int)<((BL p r).length:Int);rw[S.P.pl];omega
 .show (u:Int)<((CF p r).length:Int);rw[S.P.il];omega
 .show (u:Int)<((IF L (AJ p.W p.H)).length:Int);rw[YC];omega
 .have:=(FL S.hs (i:=(u:Int)) (e:=(e:Int)) Dv Dv ⟨Dv,Dv⟩ b).1;show 0<=AG p.W p.H u e/\AG p.W p.H u e<((IF L (AJ p.W p.H)).length:Int);rw[YC];omega
 .obtain⟨i,g,rfl⟩:=HH (d:=DE.d) (show c∈CF p r from f);have j:i<AJ p.W p.H:=by rw[<-S.P.il];exact g
  have:=(S.P.im i j).2.2.2;show 0<=_/\_<=255;omega
 .have:=hs.2 s h;unfold RK at this;omega
theorem seam_q(S:SkOK p r L){k:Nat}(c:k<=3*AJ p.W p.H):∀x∈(DY (Ao p r L) k).map GC,kyQ x:=by intro x hx;obtain⟨s,hs,rfl⟩:=Jp.1 hx;have h:=Xl S k c s hs;have d:=h.va.2.2;have e:=h.vb.2.2;exact⟨⟨d.1,by show s.a.q<=255;omega⟩,⟨e.1,by show s.b.q<=255;omega⟩⟩
theorem b4t:(DX p r L).length=(EH p r L).length:=by simp[DX,Rf]
theorem Xk(h:CS p r L=0):DW p r L=(DX p r L).map λk=>JK (Ao p r L) ((EH p r L).getD (CG (EH p r L) (BN (sN k.a k.b))) BB):=by unfold DW;rw[Iz h];rfl
theorem c4c(h:CS p r L=0){i:Nat}(hi:i<(DX p r L).length):(DW p r L).getD i BB=JK (Ao p r L) ((EH p r L).getD (CG (EH p r L) (qK (DX p r L) i)) BB):=by rw[Xk h,Ix,Jr,Iy hi];simp only[Kb,In,qK,Iy hi]
theorem b9v(h:CS p r L=0):(DW p r L).length=(DX p r L).length:=by rw[Xk h,Jv]
end
def ISeOf:Pt×Mv×List Stk->Nat->Option Inv
 |(p,r,L),8=>some {β:=Nat,ok:=λi=>i<=L.length,st:=λi=>⟨[⟨54,none,.int .i64 i⟩,⟨53,none,.int .i64 L.length⟩,⟨52,none,.sl 4 L.length (AA.row L) none⟩,⟨9,none,.own 4 0⟩],d6d p r (MK L (AJ p.W p.H) i 0) [] (.con (.slice none 0 0)) []⟩,μ:=λi=>L.length-i,sub:=λi=>some fun|11=>some {β:=Nat,ok:=λk=>k<=(L.getD i AA.d).l.length,st:=λk=>⟨[⟨61,none,.int .i64 k⟩,⟨60,none,.int .i64 (L.getD i AA.d).l.length⟩,⟨59,none,.sl 1 (L.getD i AA.d).l.length (AC.row (L.getD i AA.d).l) none⟩,⟨54,none,.int .i64 i⟩,⟨53,none,.int .i64 L.length⟩,⟨52,none,.sl 4 L.length (AA.row L) none⟩,⟨9,none,.own 4 0⟩],d6d p r (MK L (AJ p.W p.H) i k) [] (.con (.slice none 0 0)) []⟩,μ:=λk=>(L.getD i AA.d).l.length-k}|_=>none}
 |(p,r,L),17=>some {β:=Nat,ok:=λu=>u<=AJ p.W p.H,st:=λu=>⟨[⟨80,none,.int .i64 u⟩,⟨79,none,.int .i64 (AJ p.W p.H)⟩,⟨9,none,.own 4 0⟩],d6d p r (IF L (AJ p.W p.H)) (DY (Ao p r L) (3*u)) (.osl 6) [.row 193 6 (DY (Ao p r L) (3*u)).length (KB (DY (Ao p r L) (3*u))) none]⟩,μ:=λu=>AJ p.W p.H-u,nl:=[.cell 4 7 193 6],sub:=λu=>some fun|20=>some {β:=Nat,ok:=λe=>e<=3,st:=λe=>⟨[⟨83,none,.int .u8 e⟩,⟨14,none,.int .i64 u⟩,⟨80,none,.int .i64 u⟩,⟨79,none,.int .i64 (AJ p.W p.H)⟩,⟨9,none,.own 4 0⟩],d6d p r (IF L (AJ p.W p.H)) (DY (Ao p r L) (3*u+e)) (.osl 6) [.row 193 6 (DY (Ao p r L) (3*u+e)).length (KB (DY (Ao p r L) (3*u+e))) none]⟩,μ:=λe=>3-e}|_=>none}
 |(p,r,L),28=>some {β:=Nat,ok:=λi=>i<=(DX p r L).length,st:=λi=>⟨[⟨108,none,.int .i64 i⟩,⟨107,none,.int .i64 (DX p r L).length⟩,⟨106,none,.osl 6⟩,⟨16,none,.osl 7⟩,⟨9,none,.own 4 0⟩],d6d p r (IF L (AJ p.W p.H)) (IM (Ao p r L) (EH p r L) (DX p r L) i) (.osl 6) [.row 193 6 (DX p r L).length (HA.row (DX p r L)) none,.row 156 9 (DX p r L).length (λj=>KX (upto (λj=>(DW p r L).getD j BB) (λ_=>BB) i j)) none]⟩,μ:=λi=>(DX p r L).length-i}
 |_,_=>none
def smCs(s:Sm):List SV:=[.int .i64 s.a.x,.int .i64 s.a.y,.int .u8 s.a.q,.int .i64 s.b.x,.int .i64 s.b.y,.int .u8 s.b.q,.sl 2 s.ps.length (BT.row s.ps) (some s.ps.length),.sl 3 s.ls.length (CA.row s.ls) (some s.ls.length),.sl 1 s.en.length (AC.row s.en) (some s.en.length)]
theorem f9u{A:Nat->Sm}{B:Nat->Sm}{i:Nat}{s:Sm}(hs:A i=s)(j:Nat):FU (DC (decide (j=i)) (smCs s) (KX (upto A B i j))) (KX (upto A B (i+1) j)):=by
 by_cases e:j=i
 .subst e;rw[Jf rfl,show upto A B (j+1) j=s by simp[upto,hs]];generalize upto A B j j=t;right;simp[smCs,KX,DC,RA,lfL,SV.lf,GL]
 .rw[Ji e,show upto A B (i+1) j=upto A B i j by unfold upto;by_cases h:j<i;simp[h,show j<i+1 from Dv];simp[h,show¬j<i+1 from Dv]];left;rfl
theorem g0m:FU [.int .i64 0,.int .i64 0,.int .u8 0,.int .i64 0,.int .i64 0,.int .u8 0,.con (.slice none 0 0),.con (.slice none 0 0),.con (.slice none 0 0)] (KX BB):=by right;simp[KX,BB,lfL,SV.lf,GL]
theorem pSeOf:PS 74 d94:=by
 refine Np {l:=[(85,XC),(103,Vb),(104,c5c),(71,XY)],x:=[(106,b9p)],h:=[(105,c6e),(109,b4q)],c2:=true,gr:=λid=>bif Nat.beq id 4 then [.newFam 3 156 [(229,2),(158,3),(3,1)]]else []} ⟨by simpa using⟨c2p,d3b,f83,c4d⟩,by simpa using g1d,by simpa using⟨pBMeet,f2n⟩⟩ FSeOf ISeOf d94 ?_ ?_ Tryz.func74 Dw Dw Dw ?_
 .intro args pre s h hp;unfold d94 at h;split at h
  .rename_i x y z;split at h
   .rename_i q t o w;cases h;obtain⟨q,p,r⟩:=q;obtain⟨u,L⟩:=t;obtain⟨a1,a2⟩:=c0f o hp.1;obtain⟨b1,b2⟩:=Oc w hp.2.1;exact Dp
   .cases h
  .cases h
 .exact C1
 .rintro⟨p,r,L⟩ ⟨c9,c8⟩;have hl:=c8.1.1;have hS:CS p r L=0->SkOK p r L:=λh=>d6b h c9.2.1 c8.2.1;have G:CS p r L=0->(AJ p.W p.H:Int)=4*p.W*p.H/\AJ p.W p.H<=1024/\4<=AJ p.W p.H:=λh=>CR (hS h).hs;have K:CS p r L=0->EA p.W p.H=(AJ p.W p.H:Int):=λh=>by rw[(G h).1];simp[EA,(hS h).hs]
  have P:CS p r L≠0->DW p r L=[]:=λh=>by unfold DW;rw[if_neg h]
  refine X0 _ ?_;(repeat' first|constructor|intro h)<;>refine Lm ?_
  all_goals(try simp only[CU,RT.lst_row,b0j,b0i]at*)
  all_goals(first
   |exact B4
   |exact Bp
   |exact λ_=>J5
   |rfl
   |(rw[P Dz];rfl)
   |(have:=K Dz;have:=G Dz;refine⟨Dv,Dv,Qz Dw Dv Dv,Dv⟩)
   |skip)
  have g:CS p r L=0:=Dz;have c0:=K g;have n0:=G g;refine⟨(0:Nat),Je _,?_,?_⟩
  .refine X0 _ ?_;(repeat' first|constructor|intro h)<;>refine Lm ?_
   all_goals(try simp only[]at*)
   all_goals(first
    |exact Ad
    |(rw[b6p];omega)
    |exact Ah
    |(intro j hj;show [SV.int .i64 0]=AC.sv _;rw[show MK L (AJ p.W p.H) 0 0=List.replicate (AJ p.W p.H) 0 from rfl];simp only[Ix,List.getElem?_replicate];split<;>rfl)
    |skip)
  .intro i m;replace m:i<=L.length:=m;have hg:=Pw c8.1 i;have I:i<L.length->∀v∈(L.getD i AA.d).l,0<=v/\v<(AJ p.W p.H:Int):=λm v B=>by
    have:=(hS g).rg v (Lt.2 ⟨_,BW m,B⟩);omega
   refine X0 _ ?_;(repeat' first|constructor|intro h)<;>refine Lm ?_
   all_goals(try simp only[Ia]at*)
   all_goals(first|omega|skip)
   .have f:i<L.length:=Dv;have I:=I f;refine⟨(0:Nat),Je _,?_,?_⟩
    .refine X0 _ ?_;(repeat' first|constructor|intro h)<;>refine Lm ?_
     all_goals first|exact Ad|exact Ah|skip
    .intro k n;replace n:k<=(L.getD i AA.d).l.length:=n;have B:k<(L.getD i AA.d).l.length->0<=(L.getD i AA.d).l.getD k 0/\(L.getD i AA.d).l.getD k 0<(AJ p.W p.H:Int):=λh=>I _ (BW h);have M:=b6p L (AJ p.W p.H) i k;refine X0 _ ?_;(repeat' first|constructor|intro h)<;>refine Lm ?_
     all_goals(try simp only[Ia]at*)
     all_goals(first
      |exact Ap
      |(have:=B Dv;show 0<=_/\_<((MK L (AJ p.W p.H) i k).length:Int);rw[M];exact this)
      |(have:=B Dv;show ((L.getD i AA.d).l.getD k 0).toNat<_;rw[M];omega)
      |skip)
     .have E:k<(L.getD i AA.d).l.length:=Dv;have hvv:=B E;refine⟨k+1,by show k+1<=_;omega,Eu,?_⟩;refine X0 _ ?_;(repeat' first|constructor|intro h)<;>refine Lm ?_
      all_goals(first
       |exact Ad
       |(rw[b6p,b6p])
       |exact Ah
       |(intro j hj
         rw[f17 E];have F:((L.getD i AA.d).l.getD k 0).toNat<(MK L (AJ p.W p.H) i k).length:=by rw[b6p];omega
         exact c50 F j)
       |skip)
     .have E:k=(L.getD i AA.d).l.length:=Dv;subst E;refine⟨i+1,Ea,E7,?_⟩;rw[d7x f];refine X0 _ ?_;(repeat' first|constructor|intro h)<;>refine Lm ?_
      all_goals(first
       |exact Ad
       |exact Ah
       |skip)
   .have f:i=L.length:=Dv;subst f;refine⟨(0:Nat),Je _,?_,?_⟩
    .rw[g0n];refine X0 _ ?_;(repeat' first|constructor|intro h)<;>refine Lm ?_
     all_goals first|exact Ad|exact Ah|(rw[YC])|skip
    .intro u N;replace N:u<=AJ p.W p.H:=N;refine X0 _ ?_;(repeat' first|constructor|intro h)<;>refine Lm ?_
     all_goals(try simp only[Ia]at*)
     all_goals(first
      |exact Ap
      |skip)
     .have C:u<AJ p.W p.H:=Dv;refine⟨(0:Nat),Je _,?_,?_⟩
      .refine X0 _ ?_;(repeat' first|constructor|intro h)<;>refine Lm ?_
       all_goals first|exact Ad|exact Bc|skip
      .intro e O;replace O:e<=3:=O;refine X0 _ ?_;(repeat' first|constructor|intro h)<;>refine Lm ?_
       all_goals(try simp only[Ia]at*)
       all_goals(first
        |exact A7
        |skip)
       .simp only[CU,RT.lst_row,XG];refine⟨⟨⟨⟨FF _,c9.1.1⟩,RT.is_row AH _,RT.is_row DE _,RT.is_row AC _⟩,J5,λ_ _=>J5,λ_=>J5,λ_ _=>J5,λi m=> ?_⟩,f9y (hS g) c9 Dv C Dv⟩;rw[b4p];exact UM _
       .simp only[CU,RT.lst_row,XG];refine⟨e+1,by show e+1<=3;omega,Gg,?_⟩;have hs':DY (Ao p r L) (3*u+(e+1))=GO (Ao p r L) (u:Int) (e:Int) (DY (Ao p r L) (3*u+e)):=b3b (Ao p r L) Dv;revert hs';generalize DY (Ao p r L) (3*u+(e+1))=T;rintro rfl;exact X1
       .have J:e=3:=Dv;subst J;refine⟨u+1,by show u+1<=_;omega,by show _-(u+1)<_-u;omega,?_⟩;exact X1
     .have C:u=AJ p.W p.H:=Dv;subst C;rw[d5i];have:=(Tv (Ao p r L) (3*AJ p.W p.H)).1;exact⟨λ_ _=>rfl,Dv,seam_q (hS g) (J9 _)⟩
     .have:=(Tv (Ao p r L) (3*u)).1;refine⟨Dv,Dv,Qz Dw Dv Dv,Dv⟩
     .have C:u=AJ p.W p.H:=Dv;subst C;rw[show DY (Ao p r L) (3*AJ p.W p.H)=EH p r L from rfl,d5i,<-b4t,show GZ OL (List.map GC (EH p r L))=DX p r L from rfl];refine⟨(0:Nat),Je _,?_,?_⟩
      .refine X0a _ ?_;(repeat' first|constructor|intro h)<;>refine Lm ?_
       all_goals(first
        |exact Ad
        |exact Bc
        |exact A4
        |exact λ_ _=>g0m
        |exact b4t
        |omega
        |skip)
      .intro i m;replace m:i<=(DX p r L).length:=m;refine X0a _ ?_;(repeat' first|constructor|intro h)<;>refine Lm ?_
       all_goals(try simp only[Ia]at*)
       all_goals(first
        |omega
        |(simp only[AE];have:=@b4t p r L;have:=(Tv (Ao p r L) (3*AJ p.W p.H)).1;have:(EH p r L).length=(DY (Ao p r L) (3*AJ p.W p.H)).length:=rfl;omega)
        |(show i<(DX p r L).length;omega)
        |skip)
       .have f:i<(DX p r L).length:=Dv;have n:=VV f;simp only[CU,RT.lst_row,XG];refine⟨⟨⟨⟨FF _,c9.1.1⟩,RT.is_row AH _,RT.is_row DE _,RT.is_row AC _⟩,RT.is_row HA _,λ_=>J5,λ_ _=>J5,λj hj=> ?_⟩,?_,?_,?_⟩
        .rw[b4p];exact UM _
        .show DU (IM (Ao p r L) (EH p r L) (DX p r L) i) (qK (DX p r L) i)=true;rw[f05];exact n
        .show CG (IM (Ao p r L) (EH p r L) (DX p r L) i) (qK (DX p r L) i)<(IM (Ao p r L) (EH p r L) (DX p r L) i).length;rw[b30,c8n];exact LA n
        .show c9e (Ao p r L) ((IM (Ao p r L) (EH p r L) (DX p r L) i).getD (CG (IM (Ao p r L) (EH p r L) (DX p r L) i) (qK (DX p r L) i)) BB);rw[b30,b9c (λj hj=>VV hj) (λa b o w=>d4v o w) i i (J9 _) f];have F:=BW (d:=BB) (LA n);have hz:=(Tv (Ao p r L) (3*AJ p.W p.H)).2 _ F;refine d4d (hS g) (Xl (hS g) _ (J9 _) _ F) ?_;unfold RK at*;omega
       .have f:i<(DX p r L).length:=Dv;have n:=VV f;have Q:(DW p r L).getD i BB=JK (Ao p r L) ((IM (Ao p r L) (EH p r L) (DX p r L) i).getD (CG (IM (Ao p r L) (EH p r L) (DX p r L) i) (qK (DX p r L) i)) BB):=by
         rw[c4c g f,b30,b9c (λj hj=>VV hj) (λa b o w=>d4v o w) i i (J9 _) f]
        simp only[CU,RT.lst_row,XG];refine⟨i+1,Ea,E7,?_⟩;refine X0a _ ?_;(repeat' first|constructor|intro h)<;>refine Lm ?_
        all_goals(first
         |exact Ad
         |exact Bc
         |exact A4
         |exact λj _=>f9u (A:=λj=>(DW p r L).getD j BB) Q j
         |omega
         |skip)
       .exact(b9v g).symm
       .intro j hj;left;have:i=(DX p r L).length:=Dv;subst this;show KX (upto _ _ _ j)=KX _;rw[b8u _ _ hj];rfl
def asSm:SV->Option (Prop×Sm)
 |.agg [.int .i64 a,.int .i64 b,.int .u8 c,.int .i64 d,.int .i64 e,.int .u8 f,x,y,z]=>match BT.as x,CA.as y,AC.as z with
  |some u,some v,some w=>some (BT.is u.1 u.2/\CA.is v.1 v.2/\AC.is w.1 w.2,⟨⟨a,b,c⟩,⟨d,e,f⟩,BT.lst u.1 u.2,CA.lst v.1 v.2,AC.lst w.1 w.2⟩)
  |_,_,_=>none
 |_=>none
theorem d75{x:SV}{q:Prop}{s:Sm}(h:asSm x=some (q,s))(g:q):x.le2 (.agg (KX s)):=by
 unfold asSm at h;split at h
 .rename_i a b c d e f x y z;split at h
  .rename_i u v w i j k;cases h;obtain⟨l,m,n⟩:=g;have o:=BT.as_le i l;have r:=CA.as_le j m;have t:=AC.as_le k n;refine⟨E1,E1,E1,E1,E1,E1,o,r,t,J5⟩
  .cases h
 .cases h
def d5t(l:List Int)(g:Bool):List Blk:=[.cells 37 [.sl 1 l.length (AC.row l) none],.cells 4 [.bool g]]
def hSp1:HK:=λa own=>match a,own with
 | [.int .i64 v,.own 0 0,.own 1 0],[.cells b [x],.cells c [.bool g]]=>if b=37/\c=4 then(AC.as x).map λq=>⟨AC.isL q.1 q.2/\q.1<=100000,.int .i64 (AY (AC.lst q.1 q.2) v),d5t (AC.lst q.1 q.2) (g&&decide (0<=AY (AC.lst q.1 q.2) v)),[]⟩else none
 |_,_=>none
def FSp1:FamH:=⟨(Int×List Int)×Bool,λ((v,_),_)=>[.int .i64 v,.own 0 0,.own 1 0],λ((_,l),g)=>d5t l g,λ((_,l),_)=>l.length<=100000,λ((v,l),_)=>.int .i64 (AY l v),λ((v,l),g)=>d5t l (g&&decide (0<=AY l v)),[]⟩
theorem pSp1:HS 150 hSp1:=by
 refine HG {l:=[(151,b9j)]} ⟨by simpa using g1k,Dx,Dx⟩ FSp1 (λ_ _=>none) hSp1 ?_ ?_ ?_ Tryz.func150 Dw Dw Dw ?_
 .intro args own r h a;unfold hSp1 at h;split at h
  .rename_i v T1 x T2 g;split at h
   .rename_i b;obtain⟨rfl,rfl⟩:=b;simp only[J7]at h;obtain⟨⟨n,f⟩,hx,rfl⟩:=h;have c:=AC.as_leL hx a.1;refine⟨((v,AC.lst n f),g),⟨E4,E4,E4,J5⟩,rfl,⟨⟨Eh,c,J5⟩,⟨Eh,E1,J5⟩,J5⟩,by show (AC.lst n f).length<=100000;rw[RT.lst_length];exact a.2,rfl,rfl,rfl⟩
   .cases h
  .cases h
 .exact C1
 .intro i;show 2<=2;decide
 .rintro⟨⟨v,l⟩,g⟩ μ a;replace a:l.length<=100000:=a;refine X0 _ ?_;(repeat' first|constructor|intro h)<;>refine Lm ?_
  all_goals(try simp only[RT.lst_row]at*)
  all_goals(first
   |exact⟨RT.isL_row AC _,a⟩
   |exact A2
   |skip)
theorem JD{α:Type}{L:List α}{i:Nat}{d:α}(h:i<L.length):L.take (i+1)=L.take i++[L.getD i d]:=by rw[M0];simp[h]
theorem d8s{α:Type}{R:RT α}{L:List α}{i:Nat}{c:List SV}(h:i<L.length)(a:c=R.sv (L.getD i R.d)):∀j,j<i+1->(if j<i then R.row (L.take i) j else(List.map (λx:Nat×List SV=>x.snd) [(0,c)].reverse).getD (j-i) [])=R.row (L.take (i+1)) j:=by have e:(L.take i).length=i:=Ex;have:=UP (R:=R) (l:=L.take i) (x:=L.getD i R.d) a;rwa[<-JD h,e]at this
def ER(d:Int)(x:Pa):Int:=if d=0 then x.a else x.b
def KL(s:Sm)(d:Int)(l:List Int):List Int:=s.ps.map λx=>AY l (ER d x)
def IE(l:List Int)(x:Lo):Pa:=⟨min (AY l x.a) (AY l x.b),max (AY l x.a) (AY l x.b)⟩
def HP(d:Int)(L:List Lo):List Lo:=L.filter λx=>decide (x.s=d)
def Po(s:Sm)(d:Int)(l:List Int):List Pa:=(HP d s.ls).map (IE l)
def Ul(d:Int)(l:List Int)(P:List Pa):Bool:=P.all λx=>decide (0<=AY l (ER d x))
def UC(l:List Int)(L:List Lo):Bool:=L.all λx=>decide (0<=AY l x.a)&&decide (0<=AY l x.b)
def spG(s:Sm)(d:Int)(l:List Int):Bool:=Ul d l s.ps&&UC l (HP d s.ls)
theorem d7k{d:Int}{l:List Int}{P:List Pa}{i:Nat}(h:i<P.length):Ul d l (P.take (i+1))=(Ul d l (P.take i)&&decide (0<=AY l (ER d (P.getD i BT.d)))):=by rw[JD (d:=BT.d) h];simp[Ul]
theorem c52{d:Int}{L:List Lo}{i:Nat}(h:i<L.length)(a:(L.getD i CA.d).s=d):HP d (L.take (i+1))=HP d (L.take i)++[L.getD i CA.d]:=by rw[JD (d:=CA.d) h];unfold HP;rw[List.filter_append];generalize L.getD i CA.d=x at*;simp[a]
theorem d95{d:Int}{L:List Lo}{i:Nat}(h:i<L.length)(a:(L.getD i CA.d).s≠d):HP d (L.take (i+1))=HP d (L.take i):=by rw[JD (d:=CA.d) h];unfold HP;rw[List.filter_append];generalize L.getD i CA.d=x at*;simp[a]
theorem d9r{l:List Int}{L:List Lo}{x:Lo}:UC l (L++[x])=(UC l L&&decide (0<=AY l x.a)&&decide (0<=AY l x.b)):=by simp[UC,Bool.and_assoc]
theorem f9i{s:Sm}{d:Int}{l:List Int}{i:Nat}(h:i<s.ps.length):(KL s d l).getD i AC.d=AY l (ER d (s.ps.getD i BT.d)):=by simp[KL,h]
theorem TM{s:Sm}{d:Int}{l:List Int}:(KL s d l).length=s.ps.length:=by simp[KL]
theorem spRow{L:List Lo}{d:Int}{l:List Int}{i:Nat}{c:List SV}(h:i<L.length)(a:(L.getD i CA.d).s=d)(b:c=BT.sv (IE l (L.getD i CA.d))):∀j,j<(HP d (L.take i)).length+1->(if j<(HP d (L.take i)).length then BT.row ((HP d (L.take i)).map (IE l)) j else(List.map (λx:Nat×List SV=>x.snd) [(0,c)].reverse).getD (j-(HP d (L.take i)).length) [])=BT.row ((HP d (L.take (i+1))).map (IE l)) j:=by have:=UP (R:=BT) (l:=(HP d (L.take i)).map (IE l)) (x:=IE l (L.getD i CA.d)) b;rw[c52 h a,Lk];rwa[Jv]at this
theorem f4j{d:Int}{L:List Lo}{i:Nat}:(HP d (L.take i)).length<=L.length:=by unfold HP;exact Kq (N3 _ _) Ex
def f5q(s:Sm)(d:Int)(l:List Int):SV:=.tup [.sl 2 (Po s d l).length (BT.row (Po s d l)) none,.sl 1 (KL s d l).length (AC.row (KL s d l)) none,.bool (spG s d l)]
def spIn(s:Sm)(d:Int)(l:List Int):Prop:=(s.ps.length<=100000/\s.ls.length<=100000)/\l.length<=100000/\(d=0\/d=1)
def c95:AM
 | [x,.int .u8 d,y]=>match asSm x,AC.as y with
   |some q,some u=>some (q.1/\AC.isL u.1 u.2/\spIn q.2 d (AC.lst u.1 u.2),f5q q.2 d (AC.lst u.1 u.2))
   |_,_=>none
 |_=>none
def FSpans:Fam:=⟨Sm×Int×List Int,λ(s,d,l)=>[.agg (KX s),.int .u8 d,.sl 1 l.length (AC.row l) none],λ(s,d,l)=>spIn s d l,λ(s,d,l)=>f5q s d l⟩
def spOwn(s:Sm)(l:List Int)(g:Bool)(a:List Blk):List Blk:=.cells 156 (KX s)::.cells 37 [.sl 1 l.length (AC.row l) none]::.cells 4 [.bool g]::a
def ISpans:Sm×Int×List Int->Nat->Option Inv
 |(s,d,l),4=>some {β:=Nat,ok:=λi=>i<=s.ps.length,st:=λi=>⟨[⟨20,none,.int .i64 i⟩,⟨19,none,.int .i64 s.ps.length⟩,⟨18,none,.sl 2 s.ps.length (BT.row s.ps) none⟩,⟨9,none,.clo 150 [.own 1 0,.own 2 0]⟩,⟨8,none,.own 2 0⟩,⟨7,none,.osl 3⟩,⟨6,none,.con (.slice none 0 0)⟩,⟨3,none,.own 0 0⟩,⟨1,none,.int .u8 d⟩],spOwn s l (Ul d l (s.ps.take i)) [.row 3 1 i (AC.row ((KL s d l).take i)) none]⟩,μ:=λi=>s.ps.length-i,nl:=[.slot 7 3 1]}
 |(s,d,l),9=>some {β:=Nat,ok:=λi=>i<=s.ls.length,st:=λi=>⟨[⟨40,none,.int .i64 i⟩,⟨39,none,.int .i64 s.ls.length⟩,⟨38,none,.sl 3 s.ls.length (CA.row s.ls) none⟩,⟨9,none,.clo 150 [.own 1 0,.own 2 0]⟩,⟨8,none,.own 2 0⟩,⟨7,none,.osl 3⟩,⟨6,none,.osl 4⟩,⟨1,none,.int .u8 d⟩],spOwn s l (Ul d l s.ps&&UC l (HP d (s.ls.take i))) [.row 3 1 (KL s d l).length (AC.row (KL s d l)) none,.row 206 2 (HP d (s.ls.take i)).length (BT.row ((HP d (s.ls.take i)).map (IE l))) none]⟩,μ:=λi=>s.ls.length-i,nl:=[.slot 6 206 2]}
 |_,_=>none
theorem pSpans:PS 112 c95:=by
 refine Np {h:=[(150,hSp1)],c2:=true} ⟨Dx,Dx,by simpa using pSp1⟩ FSpans ISpans c95 ?_ ?_ Tryz.func112 Dw Dw Dw ?_
 .intro args pre s h f;unfold c95 at h;split at h
  .rename_i x d y;split at h
   .rename_i q u k m;cases h;exact⟨(q.2,d,AC.lst u.1 u.2),⟨d75 k f.1,E4,Hl (AC.as_leL m f.2.1),J5⟩,f.2.2,rfl⟩
   .cases h
  .cases h
 .exact C1
 .rintro⟨s,d,l⟩ ⟨⟨c9,c8⟩,g,b⟩;rcases b with rfl|rfl;all_goals
   all_goals refine X0 _ ?_;(repeat' first|constructor|intro h)<;>refine Lm ?_
   refine⟨(0:Nat),Je _,?_,?_⟩
   .exact X1a
   .intro i e;replace e:i<=s.ps.length:=e;refine X0 _ ?_;(repeat' first|constructor|intro h)<;>refine Lm ?_
    all_goals(try simp only[Ia,RT.lst_row]at*)
    all_goals(try first
     |omega
     |exact⟨RT.isL_row AC _,g⟩
     |exact A9
     |exact A7)
    .have a:i<s.ps.length:=Dv;refine⟨i+1,Dv,Dv,?_⟩;simp only[d7k a];refine X0 _ ?_;(repeat' first|constructor|intro h)<;>refine Lm ?_
     all_goals(first
      |exact Ar
      |exact d8s (by rw[TM];exact a) (by rw[f9i a];rfl)
      |skip)
    .have a:i=s.ps.length:=Dv;subst a;refine⟨(0:Nat),Je _,?_,?_⟩
     .simp only[Kx,List.take_zero];refine X0 _ ?_;(repeat' first|constructor|intro h)<;>refine Lm ?_
      all_goals(first
       |exact A2
       |exact TM.symm
       |exact Ah
       |(simp[UC,HP];done)
       |(intro j _;rw[L6 (by rw[TM];exact J9 _)];done)
       |skip)
     .intro i e;replace e:i<=s.ls.length:=e;refine X0 _ ?_;(repeat' first|constructor|intro h)<;>refine Lm ?_
      all_goals(try simp only[Ia,RT.lst_row]at*)
      all_goals(try first
       |omega
       |exact⟨RT.isL_row AC _,g⟩
       |exact A9
       |(have:=@f4j 0 s.ls i;refine⟨Dv,?_⟩;exact MU Dw Dv)
       |(have:=@f4j 1 s.ls i;refine⟨Dv,?_⟩;exact MU Dw Dv)
       |exact A7
       |exact λ_ _=>J5)
      .have b:=h;have a:i<s.ls.length:=Dv;refine⟨i+1,Dv,Dv,?_⟩;simp only[c52 a b,d9r,Ip,<-Bool.and_assoc];refine X0 _ ?_;(repeat' first|constructor|intro h)<;>refine Lm ?_
       all_goals(first
        |exact Ar
        |(rw[<-c52 a b];exact spRow a b rfl)
        |skip)
      .have b:=h;have a:i<s.ls.length:=Dv;refine⟨i+1,Dv,Dv,?_⟩;simp only[d95 a b];refine X0 _ ?_;(repeat' first|constructor|intro h)<;>refine Lm ?_
       all_goals(first
        |exact Ar
        |skip)
      all_goals
       have a:i=s.ls.length:=Dv;subst a;simp only[Kx];first
        |exact A2
        |(unfold Po;rw[List.length_map];done)
        |skip
def Rb(s:Int):Bool:=decide (1<s)
def f1k:AM
 | [.agg [.int .u8 s,.int .i64 _,.int .i64 _]]=>some (True,.bool (Rb s))
 |_=>none
def FCrs1:Fam:=⟨Int×Int×Int,λ(s,a,b)=>[.agg [.int .u8 s,.int .i64 a,.int .i64 b]],λ_=>True,λ(s,_,_)=>.bool (Rb s)⟩
theorem pCrs1:PS 114 f1k:=by
 refine con [] Dx FCrs1 (λ_ _=>none) f1k ?_ ?_ Tryz.func114 Dw Dw Dw ?_
 .intro args pre s h hp;unfold f1k at h;split at h
  .rename_i s a b;cases h;exact⟨(s,a,b),⟨Eb,J5⟩,J5,rfl⟩
  .cases h
 .exact C0
 .rintro⟨s,a,b⟩ _;refine X0 _ ?_;(repeat' first|constructor|intro h)<;>refine Lm ?_
  all_goals first|rfl|skip
def c7h:AM
 | [x,.clo g []]=>if g=114 then(CA.as x).map λq=>(CA.isL q.1 q.2/\q.1<=100000,.int .i64 (Ol Rb ((CA.lst q.1 q.2).map (·.s))))else none
 |_=>none
def f3y:Fam:=⟨List Lo,λl=>[.sl 3 l.length (CA.row l) none,.clo 114 []],λl=>l.length<=100000,λl=>.int .i64 (Ol Rb (l.map (·.s)))⟩
def IIdxFL:List Lo->Nat->Option Inv
 |l,2=>some {β:=Nat,ok:=λi=>i<=l.length/\∀j,j<i->Rb ((l.map (·.s)).getD j 0)=false,st:=λi=>⟨[⟨8,none,.int .i64 i⟩,⟨7,none,.int .i64 l.length⟩,⟨1,none,.clo 114 []⟩,⟨0,none,.sl 3 l.length (CA.row l) none⟩],[]⟩,μ:=λi=>l.length-i}
 |_,_=>none
theorem f2k(l:List Lo)(i:Nat):(l.map (·.s)).getD i 0=(l.getD i CA.d).s:=by simp only[Ix,Jr];cases l[i]?<;>rfl
theorem pIdxFL:PS 152 c7h:=by
 refine con [(114,f1k)] (by simpa using pCrs1) f3y IIdxFL c7h ?_ ?_ Tryz.func152 Dw Dw Dw ?_
 .intro args pre s h a;unfold c7h at h;split at h
  .split at h
   .rename_i d;subst d;simp only[Ic]at h;obtain⟨⟨n,f⟩,hx,rfl,rfl⟩:=h;exact⟨CA.lst n f,⟨Hl (CA.as_leL hx a.1),⟨rfl,rfl⟩,J5⟩,by simp only[f3y,RT.lst_length];exact a.2,rfl⟩
   .cases h
  .cases h
 .exact Bz
 .intro(l:List Lo) a;replace a:l.length<=100000:=a;refine X0 _ ?_;(repeat' first|constructor|intro h)<;>refine Lm ?_
  refine⟨(0:Nat),⟨Je _,λj hj=>Dv⟩,?_,?_⟩
  .exact X0c
  .intro i g;obtain⟨dv,br⟩:=g;have c:=f2k l i;have hml:(l.map (·.s)).length=l.length:=Jv ..;refine X0 _ ?_;(repeat' first|constructor|intro h)<;>refine Lm ?_
   all_goals(try simp only[Ia]at*)
   all_goals(first
    |exact Ap
    |rfl
    |exact J5
    |exact(c00 Dv br (by rw[c];assumption)).symm
    |(refine⟨i+1,⟨Dv,λj hj=> ?_⟩,E7,?_⟩)
    |exact Bq
    |skip)
   .by_cases e:j<i
    .exact br j e
    .have:j=i:=Dv;subst this;rw[c];assumption
   .exact X0d
def c7w:AM
 | [x,.clo g []]=>if g=114 then(CA.as x).map λq=>(CA.isL q.1 q.2/\q.1<=100000,.bool (((CA.lst q.1 q.2).map (·.s)).any Rb))else none
 |_=>none
def f4r:Fam:=⟨List Lo,λl=>[.sl 3 l.length (CA.row l) none,.clo 114 []],λl=>l.length<=100000,λl=>.bool ((l.map (·.s)).any Rb)⟩
theorem pCntFL:PS 113 c7w:=by
 refine con [(152,c7h)] (by simpa using pIdxFL) f4r (λ_ _=>none) c7w ?_ ?_ Tryz.func113 Dw Dw Dw ?_
 .intro args pre s h a;unfold c7w at h;split at h
  .split at h
   .rename_i b;subst b;simp only[Ic]at h;obtain⟨⟨n,f⟩,hx,rfl,rfl⟩:=h;exact⟨CA.lst n f,⟨Hl (CA.as_leL hx a.1),⟨rfl,rfl⟩,J5⟩,by simp only[f4r,RT.lst_length];exact a.2,rfl⟩
   .cases h
  .cases h
 .exact Bz
 .intro(l:List Lo) a;replace a:l.length<=100000:=a;refine X0 _ ?_;(repeat' first|constructor|intro h)<;>refine Lm ?_
  all_goals(try simp only[RT.lst_row]at*)
  all_goals(first
   |exact⟨CA.isL_row l,a⟩
   |exact b8w _ _
   |skip)
def Pp(x:Pa)(h:Int):Bool:=decide (h>x.a)&&decide (h<x.b)
def PH(x y:Pa):Bool:=(decide (x.a<y.a)&&decide (y.a<x.b)&&decide (x.b<y.b))||(decide (y.a<x.a)&&decide (x.a<y.b)&&decide (y.b<x.b))
def RX(L:List Pa)(P:List Int)(i:Nat):Bool:=P.any (Pp (L.getD i BT.d))||(List.range i).any λj=>PH (L.getD i BT.d) (L.getD j BT.d)
def IQ(L:List Pa)(P:List Int):Bool:=(List.range L.length).any (RX L P)
def crC(s:Sm):Nat->Cl
 |0=>s.a
 |_=>s.b
def Do(s:Sm)(K:List Stk)(d:Nat):List Pa:=Po s d (AF K (crC s d))
def CQ(s:Sm)(K:List Stk)(d:Nat):List Int:=KL s d (AF K (crC s d))
def RG(s:Sm)(K:List Stk)(d:Nat):Bool:=spG s d (AF K (crC s d))
def Nr(s:Sm)(K:List Stk):Nat->Bool
 |0=>false
 |1=>IQ (Do s K 0) (CQ s K 0)
 |_=>IQ (Do s K 0) (CQ s K 0)||IQ (Do s K 1) (CQ s K 1)
def Rj(s:Sm):Bool:=(s.ls.map (·.s)).any Rb
def Tx(A B:List Int)(i k:Nat):Bool:=decide (CE (A.getD i AC.d) (A.getD k AC.d)*CE (B.getD i AC.d) (B.getD k AC.d)<0)
def OH(A B:List Int)(i:Nat):Bool:=(List.range i).any λa=>(List.range a).any (Tx A B a)
def LM(s:Sm)(K:List Stk):Int:=
 if(!RG s K 0||Rj s)=true then 1 else if(!RG s K 1||Rj s)=true then 1
 else if(Nr s K 2||OH (CQ s K 0) (CQ s K 1) s.ps.length)=true then 12 else 0
theorem crE_1{s:Sm}{K:List Stk}(a:(!RG s K 0||Rj s)=false)(h:(!RG s K 1||Rj s)=true):1=LM s K:=by unfold LM;rw[if_neg (by rw[a];decide),if_pos h]
theorem crE_2{s:Sm}{K:List Stk}(a:(!RG s K 0||Rj s)=false)(b:(!RG s K 1||Rj s)=false):LM s K=if(Nr s K 2||OH (CQ s K 0) (CQ s K 1) s.ps.length)=true then 12 else 0:=by unfold LM;rw[if_neg (by rw[a];decide),if_neg (by rw[b];decide)]
theorem WP(s:Sm)(K:List Stk)(b:Bool):∀i,i<2->IQ (Do s K i) (CQ s K i)=b->Nr s K (i+1)=(Nr s K i||b)
 |0,_,e=>by rw[<-e];rfl
 |1,_,e=>by rw[<-e];rfl
 |_+2,h,_=>Dv
theorem f4x{s:Sm}{d:Int}{l:List Int}:(Po s d l).length<=s.ls.length:=by unfold Po HP;rw[Jv];exact N3 _ _
theorem c82{L:List Pa}{P:List Int}(h:∀j,j<L.length->RX L P j=false):IQ L P=false:=by unfold IQ;rw[Jg];intro j a;rw[h j (Jn.1 a)];decide
theorem d4h{L:List Pa}{P:List Int}{k:Nat}(a:k<L.length)(h:RX L P k=true):IQ L P=true:=Jj.2 ⟨k,Jn.2 a,h⟩
theorem c5m{L:List Pa}{P:List Int}{k m:Nat}(b:k<L.length)(a:m<P.length)(h:Pp (L.getD k BT.d) (P.getD m AC.d)=true):IQ L P=true:=d4h b (by unfold RX;rw[K1];refine .inl (Jj.2 ⟨P.getD m AC.d,?_,h⟩);rw[Ix,Iy a];exact K2 a)
theorem c8e{P:List Int}{x:Pa}(h:∀j,j<P.length->Pp x (P.getD j AC.d)=false):P.any (Pp x)=false:=by rw[Jg];intro v b;obtain⟨j,a,rfl⟩:=Jw.1 b;have:=h j a;rw[Ix,Iy a]at this;simp only[Kn]at this;rw[this];decide
theorem c0u{L:List Pa}{P:List Int}{k m:Nat}(a:k<L.length)(b:m<k)(h:PH (L.getD k BT.d) (L.getD m BT.d)=true):IQ L P=true:=d4h a (by unfold RX;rw[K1];exact .inr (Jj.2 ⟨m,Jn.2 b,h⟩))
theorem c35{L:List Pa}{P:List Int}{k:Nat}(a:P.any (Pp (L.getD k BT.d))=false)(b:∀j,j<k->PH (L.getD k BT.d) (L.getD j BT.d)=false):RX L P k=false:=by unfold RX;rw[a,N4,Jg];intro j c;rw[b j (Jn.1 c)];decide
theorem d4b{f:Nat->Bool}{q:Nat}(h:f q=true):(List.range (q+1)).any f=true:=Jj.2 ⟨q,Jn.2 (Nat.lt_succ_self q),h⟩
theorem c9m{f:Nat->Bool}{q:Nat}(h:f q=false):(List.range (q+1)).any f=(List.range q).any f:=by simp[Mj,h]
theorem d9z(A B:List Int)(k:Nat):OH A B (k+1)=(OH A B k||(List.range k).any (Tx A B k)):=by simp[OH,Mj]
theorem b7z(a b:Int):CE a b= -1\/CE a b=0\/CE a b=1:=by
 unfold CE;split
 .exact .inl rfl
 .split
  .exact .inr (.inr rfl)
  .exact .inr (.inl rfl)
theorem f5w(a b c d:Int):AE .i64 (CE a b*CE c d):=by rcases b7z a b with e|e|e<;>rcases b7z c d with f|f|f<;>(rw[e,f];simp only[AE];omega)
def crIn(s:Sm)(K:List Stk):Prop:=(s.ps.length<=100000/\s.ls.length<=100000)/\FN K/\(∀c,(AF K c).length<=100000)
def nilV:SV:=.con (.slice none 0 0)
def UY(s:Sm)(K:List Stk)(d:Nat):SV:=.sl 1 (CQ s K d).length (AC.row (CQ s K d)) none
def paS(s:Sm)(K:List Stk):Nat->List SV
 |0=>[nilV,nilV]
 |1=>[UY s K 0,nilV]
 |_=>[UY s K 0,UY s K 1]
def d82(s:Sm)(K:List Stk)(i:Nat)(c:List Blk):List Blk:=.cells 156 (KX s)::.cells 200 (paS s K i)::.row 39 3 2 (DE.row [s.a,s.b]) none::c
def WW(s:Sm)(K:List Stk)(d:Nat):Bool:= !RG s K d||Rj s
def Tj(s:Sm)(K:List Stk)(d n:Nat):SV:=.sl 2 n (BT.row (Do s K d)) none
abbrev SA(s:Sm)(K:List Stk)(d k:Nat):Pa:=(Do s K d).getD k BT.d
def paC(x:Pa):Blk:=.cells 206 [.int .i64 x.a,.int .i64 x.b]
def ICr:Sm×List Stk->Nat->Option Inv
 |(s,K),4=>some {β:=Nat,ok:=λi=>i<=2/\(1<=i->WW s K 0=false)/\(2<=i->WW s K 1=false),st:=λi=>⟨[⟨27,none,.int .i64 i⟩,⟨26,none,.int .i64 2⟩,⟨25,none,.osl 2⟩,⟨6,none,.bool (Nr s K i)⟩,⟨5,none,.own 1 0⟩,⟨2,none,.own 0 0⟩,⟨1,none,DJ K⟩],d82 s K i []⟩,μ:=λi=>2-i,sub:=λi=>some fun
  |12=>some {β:=Nat,ok:=λk=>k<=(Do s K i).length/\∀j,j<k->RX (Do s K i) (CQ s K i) j=false,st:=λk=>⟨[⟨56,none,.int .i64 k⟩,⟨55,none,.int .i64 (Do s K i).length⟩,⟨54,none,Tj s K i (Do s K i).length⟩,⟨11,none,UY s K i⟩,⟨10,none,Tj s K i (Do s K i).length⟩,⟨27,none,.int .i64 i⟩,⟨26,none,.int .i64 2⟩,⟨25,none,.osl 2⟩,⟨6,none,.bool (Nr s K i)⟩,⟨5,none,.own 1 0⟩,⟨2,none,.own 0 0⟩,⟨1,none,DJ K⟩],d82 s K (i+1) []⟩,μ:=λk=>(Do s K i).length-k,sub:=λk=>some fun
   |15=>some {β:=Nat,ok:=λm=>m<=(CQ s K i).length/\∀j,j<m->Pp (SA s K i k) ((CQ s K i).getD j AC.d)=false,st:=λm=>⟨[⟨63,none,.int .i64 m⟩,⟨62,none,.int .i64 (CQ s K i).length⟩,⟨61,none,UY s K i⟩,⟨14,none,.own 3 0⟩,⟨13,none,.int .i64 k⟩,⟨56,none,.int .i64 k⟩,⟨55,none,.int .i64 (Do s K i).length⟩,⟨54,none,Tj s K i (Do s K i).length⟩,⟨11,none,UY s K i⟩,⟨10,none,Tj s K i (Do s K i).length⟩,⟨27,none,.int .i64 i⟩,⟨26,none,.int .i64 2⟩,⟨25,none,.osl 2⟩,⟨6,none,.bool (Nr s K i)⟩,⟨5,none,.own 1 0⟩,⟨2,none,.own 0 0⟩,⟨1,none,DJ K⟩],d82 s K (i+1) [paC (SA s K i k)]⟩,μ:=λm=>(CQ s K i).length-m}
   |21=>some {β:=Nat,ok:=λm=>m<=k/\(CQ s K i).any (Pp (SA s K i k))=false/\∀j,j<m->PH (SA s K i k) (SA s K i j)=false,st:=λm=>⟨[⟨82,none,.int .i64 m⟩,⟨81,none,.int .i64 k⟩,⟨80,none,Tj s K i k⟩,⟨14,none,.own 3 0⟩,⟨56,none,.int .i64 k⟩,⟨55,none,.int .i64 (Do s K i).length⟩,⟨54,none,Tj s K i (Do s K i).length⟩,⟨11,none,UY s K i⟩,⟨10,none,Tj s K i (Do s K i).length⟩,⟨27,none,.int .i64 i⟩,⟨26,none,.int .i64 2⟩,⟨25,none,.osl 2⟩,⟨6,none,.bool (Nr s K i)⟩,⟨5,none,.own 1 0⟩,⟨2,none,.own 0 0⟩,⟨1,none,DJ K⟩],d82 s K (i+1) [paC (SA s K i k)]⟩,μ:=λm=>k-m}
   |_=>none}
  |_=>none}
 |(s,K),29=>some {β:=Nat,ok:=λi=>i<=s.ps.length,st:=λi=>⟨[⟨132,none,.int .i64 i⟩,⟨131,none,.int .i64 s.ps.length⟩,⟨6,none,.bool (Nr s K 2||OH (CQ s K 0) (CQ s K 1) i)⟩,⟨5,none,.own 1 0⟩],[.cells 156 (KX s),.cells 200 (paS s K 2)]⟩,μ:=λi=>s.ps.length-i,sub:=λi=>some fun
  |32=>some {β:=Nat,ok:=λk=>k<=i,st:=λk=>⟨[⟨136,none,.int .i64 k⟩,⟨135,none,.int .i64 i⟩,⟨19,none,.int .i64 i⟩,⟨132,none,.int .i64 i⟩,⟨131,none,.int .i64 s.ps.length⟩,⟨6,none,.bool (Nr s K 2||OH (CQ s K 0) (CQ s K 1) i||(List.range k).any (Tx (CQ s K 0) (CQ s K 1) i))⟩,⟨5,none,.own 1 0⟩],[.cells 156 (KX s),.cells 200 (paS s K 2)]⟩,μ:=λk=>i-k}
  |_=>none}
 |_,_=>none
def FCr:Fam:=⟨Sm×List Stk,λ(s,K)=>[.agg (KX s),DJ K],λ(s,K)=>crIn s K,λ(s,K)=>.int .i64 (LM s K)⟩
def b45:AM
 | [x,y]=>match asSm x,KJ y with
   |some q,some u=>some (q.1/\u.1/\crIn q.2 u.2,.int .i64 (LM q.2 u.2))
   |_,_=>none
 |_=>none
theorem d81:PS 79 b45:=by
 refine con [(111,f0j),(112,c95),(113,c7w),(115,Tp)] (by simpa using⟨pStAt,pSpans,pCntFL,pCmp⟩) FCr ICr b45 ?_ ?_ Tryz.func79 Dw Dw Dw ?_
 .intro args pre s h w;unfold b45 at h;split at h
  .rename_i x y;split at h
   .rename_i q u F G;cases h;exact⟨(q.2,u.2),⟨d75 F w.1,(Oc G w.2.1).1,J5⟩,w.2.2,rfl⟩
   .cases h
  .cases h
 .exact Bz
 .rintro⟨s,K⟩ ⟨⟨c9,c8⟩,g9,vu⟩;refine X0 _ ?_;(repeat' first|constructor|intro h)<;>refine Lm ?_
  refine⟨(0:Nat),⟨Dy,λh=>absurd h Dy,λh=>absurd h Dy⟩,?_,?_⟩
  .refine X0 _ ?_;(repeat' first|constructor|intro h)<;>refine Lm ?_
   all_goals first|exact A2|(intro j b;rcases(show j=0\/j=1 from Dv)with rfl|rfl<;>rfl)|skip
  .intro i d;obtain⟨d,dv,E⟩:=d;replace d:i<=2:=d;rcases(show i=0\/i=1\/i=2 from Dv)with rfl|rfl|rfl
   .refine X0 _ ?_;(repeat' first|constructor|intro h)<;>refine Lm ?_
    all_goals(try simp only[Ia,RT.lst_row]at*)
    all_goals(try first
     |exact Ak)
    have z:(CQ s K 0).length=s.ps.length:=TM;have A:(Do s K 0).length<=s.ls.length:=f4x;have c:(1<=1->WW s K 0=false)/\(2<=1->WW s K 1=false):=⟨λ_=>h,λe=>absurd e Dy⟩
    refine⟨(0:Nat),⟨Je _,λj b=>absurd b (Jq _)⟩,?_,?_⟩
    .exact X1b
    .intro k g;obtain⟨H,n⟩:=g;refine X0 _ ?_;(repeat' first|constructor|intro h)<;>refine Lm ?_
     all_goals(try simp only[Ia]at*)
     all_goals(try first
      |exact Ap)
     .have o:k<(Do s K 0).length:=Dv;refine⟨(0:Nat),⟨Je _,λj b=>absurd b (Jq _)⟩,?_,?_⟩
      .exact X1b
      .intro m B;obtain⟨I,r⟩:=B;refine X0 _ ?_;(repeat' first|constructor|intro h)<;>refine Lm ?_
       all_goals(try simp only[Ia]at*)
       all_goals(try first
        |exact Ap
        |exact Bj)
       .have hs:IQ (Do s K 0) (CQ s K 0)=true:=c5m (m:=m) o Dv (by unfold Pp;assumption);refine⟨(1:Nat),⟨Dy,c.1,c.2⟩,Dy,?_⟩;exact X1c
       .refine⟨m+1,⟨Dv,λj b=> ?_⟩,by show _-(m+1)<_-m;omega,?_⟩
        .by_cases e:j<m
         .exact r j e
         .have:j=m:=Dv;subst this;assumption
        .exact X1d
       .have C:=c8e (x:=SA s K 0 k) λj b=>r j Dv;refine⟨(0:Nat),⟨Je _,C,λj b=>absurd b (Jq _)⟩,?_,?_⟩
        .refine X0 _ ?_;(repeat' first|constructor|intro h)<;>refine Lm ?_
         all_goals first|exact Ar|(intro j _;simp;done)|skip
        .intro q l;obtain⟨J,t,v⟩:=l;refine X0 _ ?_;(repeat' first|constructor|intro h)<;>refine Lm ?_
         all_goals(try simp only[Ia]at*)
         all_goals(try first
          |exact Ap)
         .have hs:IQ (Do s K 0) (CQ s K 0)=true:=c0u (m:=q) o Dv (by unfold PH;assumption);refine⟨(1:Nat),⟨Dy,c.1,c.2⟩,Dy,?_⟩;exact X1c
         .refine⟨q+1,⟨Dv,t,λj b=> ?_⟩,He,?_⟩
          .by_cases e:j<q
           .exact v j e
           .have:j=q:=Dv;subst this;unfold PH;assumption
          .exact X1d
         .refine⟨k+1,⟨Dv,λj b=> ?_⟩,Eu,?_⟩
          .by_cases e:j<k
           .exact n j e
           .have:j=k:=Dv;subst this;exact c35 t λi d=>v i Dv
          .exact X1d
     .have hs:IQ (Do s K 0) (CQ s K 0)=false:=c82 λj b=>n j Dv;refine⟨(1:Nat),⟨Dy,c.1,c.2⟩,Dy,?_⟩;refine X0 _ ?_;(repeat' first|constructor|intro h)<;>refine Lm ?_
      all_goals first|exact Ar|exact(WP s K false 0 Dy hs).symm|exact((WP s K false 0 Dy hs).trans (Mb _)).symm|skip
   .refine X0 _ ?_;(repeat' first|constructor|intro h)<;>refine Lm ?_
    all_goals(try simp only[Ia,RT.lst_row]at*)
    all_goals(try first
     |exact Ak)
    have z:(CQ s K 1).length=s.ps.length:=TM;have A:(Do s K 1).length<=s.ls.length:=f4x;have c:(1<=2->WW s K 0=false)/\(2<=2->WW s K 1=false):=⟨λ_=>dv (J9 1),λ_=>h⟩
    refine⟨(0:Nat),⟨Je _,λj b=>absurd b (Jq _)⟩,?_,?_⟩
    .exact X1b
    .intro k g;obtain⟨H,n⟩:=g;refine X0 _ ?_;(repeat' first|constructor|intro h)<;>refine Lm ?_
     all_goals(try simp only[Ia]at*)
     all_goals(try first
      |exact Ap)
     .have o:k<(Do s K 1).length:=Dv;refine⟨(0:Nat),⟨Je _,λj b=>absurd b (Jq _)⟩,?_,?_⟩
      .exact X1b
      .intro m B;obtain⟨I,r⟩:=B;refine X0 _ ?_;(repeat' first|constructor|intro h)<;>refine Lm ?_
       all_goals(try simp only[Ia]at*)
       all_goals(try first
        |exact Ap
        |exact Bj)
       .have hs:IQ (Do s K 1) (CQ s K 1)=true:=c5m (m:=m) o Dv (by unfold Pp;assumption);refine⟨(2:Nat),⟨Dy,c.1,c.2⟩,Dy,?_⟩;exact X1e
       .refine⟨m+1,⟨Dv,λj b=> ?_⟩,by show _-(m+1)<_-m;omega,?_⟩
        .by_cases e:j<m
         .exact r j e
         .have:j=m:=Dv;subst this;assumption
        .exact X1d
       .have C:=c8e (x:=SA s K 1 k) λj b=>r j Dv;refine⟨(0:Nat),⟨Je _,C,λj b=>absurd b (Jq _)⟩,?_,?_⟩
        .refine X0 _ ?_;(repeat' first|constructor|intro h)<;>refine Lm ?_
         all_goals first|exact Ar|(intro j _;simp;done)|skip
        .intro q l;obtain⟨J,t,v⟩:=l;refine X0 _ ?_;(repeat' first|constructor|intro h)<;>refine Lm ?_
         all_goals(try simp only[Ia]at*)
         all_goals(try first
          |exact Ap)
         .have hs:IQ (Do s K 1) (CQ s K 1)=true:=c0u (m:=q) o Dv (by unfold PH;assumption);refine⟨(2:Nat),⟨Dy,c.1,c.2⟩,Dy,?_⟩;exact X1e
         .refine⟨q+1,⟨Dv,t,λj b=> ?_⟩,He,?_⟩
          .by_cases e:j<q
           .exact v j e
           .have:j=q:=Dv;subst this;unfold PH;assumption
          .exact X1d
         .refine⟨k+1,⟨Dv,λj b=> ?_⟩,Eu,?_⟩
          .by_cases e:j<k
           .exact n j e
           .have:j=k:=Dv;subst this;exact c35 t λi d=>v i Dv
          .exact X1d
     .have hs:IQ (Do s K 1) (CQ s K 1)=false:=c82 λj b=>n j Dv;refine⟨(2:Nat),⟨Dy,c.1,c.2⟩,Dy,?_⟩;refine X0 _ ?_;(repeat' first|constructor|intro h)<;>refine Lm ?_
      all_goals first|exact Ar|exact(WP s K false 1 Dy hs).symm|exact((WP s K false 1 Dy hs).trans (Mb _)).symm|skip
   .refine X0 _ ?_;(repeat' first|constructor|intro h)<;>refine Lm ?_
    all_goals(try simp only[]at*)
    all_goals(try omega)
    have z:(CQ s K 0).length=s.ps.length:=TM;have hPm:(CQ s K 1).length=s.ps.length:=TM;refine⟨(0:Nat),Je _,?_,?_⟩
    .refine X0 _ ?_;(repeat' first|constructor|intro h)<;>refine Lm ?_
     all_goals first|exact A2|exact(Mb _).symm|(rw[z];done)|skip
    .intro k g;replace g:k<=s.ps.length:=g;refine X0 _ ?_;(repeat' first|constructor|intro h)<;>refine Lm ?_
     all_goals(try simp only[Ia]at*)
     .refine⟨(0:Nat),Je _,?_,?_⟩
      .refine X0 _ ?_;(repeat' first|constructor|intro h)<;>refine Lm ?_
       all_goals first|exact A2|exact(Mb _).symm|skip
      .intro q l;replace l:q<=k:=l;refine X0 _ ?_;(repeat' first|constructor|intro h)<;>refine Lm ?_
       all_goals(try simp only[Ia]at*)
       all_goals(try first
        |exact Ap
        |exact f5w _ _ _ _
        |exact Ae)
       .refine⟨q+1,by show q+1<=k;omega,by show k-(q+1)<k-q;omega,?_⟩;refine X0 _ ?_;(repeat' first|constructor|intro h)<;>refine Lm ?_
        all_goals first|exact Ar|(have e:=d4b (f:=Tx (CQ s K 0) (CQ s K 1) k) (q:=q) (Jf h);rw[e,Bool.or_true];done)|skip
       .refine⟨q+1,by show q+1<=k;omega,by show k-(q+1)<k-q;omega,?_⟩;refine X0 _ ?_;(repeat' first|constructor|intro h)<;>refine Lm ?_
        all_goals first|exact Ar|(have e:=c9m (f:=Tx (CQ s K 0) (CQ s K 1) k) (q:=q) (Ji h);rw[e];done)|skip
       .have e:q=k:=Dv;subst e;refine⟨q+1,by show q+1<=_;omega,He,?_⟩;refine X0 _ ?_;(repeat' first|constructor|intro h)<;>refine Lm ?_
        all_goals first|exact Ar|(rw[d9z,Bool.or_assoc];done)|skip
     .have e:k=s.ps.length:=Dv;subst e;rw[crE_2 (dv Dy) (E Dy),Iz Dz]
     .have e:k=s.ps.length:=Dv;subst e;rw[crE_2 (dv Dy) (E Dy),J3 (by simp_all)]
def Fo(p:Pt)(r:Mv)(L:List Stk):List SV:=[.int .i64 p.W,.int .i64 p.H,.sl 3 p.l.length (DZ p.l) none,.int .u8 r.t,.int .i64 r.x,.int .i64 r.y,DJ L]
def Ox:SV->Option (Prop×Pt×Mv×List Stk)
 |.agg [.int .i64 W,.int .i64 H,c,.int .u8 t,.int .i64 a,.int .i64 b,z]=>match PT c,KJ z with
  |some q,some s=>some (((MN q.1 q.2/\q.1<=100000)/\(∀x∈EF q.1 q.2,AE .u8 x.e)/\0<=t/\t<=255)/\s.1/\(∀x∈s.2,AE .u8 x.c.q)/\(BG s.2).length<=100000,⟨W,H,EF q.1 q.2⟩,⟨t,a,b⟩,s.2)
  |_,_=>none
 |_=>none
theorem c7y{x:SV}{q:Prop}{L:List Stk}(h:KJ x=some (q,L))(hq:q):x.le0 (DJ L)/\FN L:=by unfold KJ at h;simp only[Ic]at h;obtain⟨⟨n,f⟩,hx,rfl,rfl⟩:=h;exact⟨AA.as_leL hx hq.1,H5,hq.2.2⟩
theorem Sx{x:SV}{q:Prop}{p:Pt}{r:Mv}{L:List Stk}(h:Ox x=some (q,p,r,L))(d:q):x.le2 (.agg (Fo p r L))/\prOK p r/\FK L:=by
 unfold Ox at h;split at h
 .rename_i W H c t a b z;split at h
  .rename_i u v e f;cases h;obtain⟨⟨⟨g,i⟩,j,k,l⟩,m,n,o⟩:=d;obtain⟨s,w⟩:=c7y f m;refine⟨?_,⟨⟨by simp only[Sh];exact i,j⟩,k,l⟩,w,n,o⟩;refine⟨E1,E1,Sa e g,E1,E1,E1,s,J5⟩
  .cases h
 .cases h
def Rl(p:Pt)(r:Mv)(L:List Stk)(u:List Bool)(S:List Sm):List SV:=Fo p r L++[.sl 1 u.length (GM.row u) none,.sl 9 S.length (GA.row S) none]
def zP(e:Int)(p:Pt):Pt:=if e=0 then p else⟨0,0,[]⟩
def zR(e:Int)(r:Mv):Mv:=if e=0 then r else⟨0,0,0⟩
def zL{α:Type}(e:Int)(L:List α):List α:=if e=0 then L else []
def rLook(p:Pt)(r:Mv)(L:List Stk):SV:=.tup [.agg (Rl (zP (CS p r L) p) (zR (CS p r L) r) (zL (CS p r L) L) (zL (CS p r L) (FP p r)) (zL (CS p r L) (DW p r L))),.int .i64 (CS p r L)]
def f0d:AM
 | [x]=>(Ox x).map λq=>(q.1,rLook q.2.1 q.2.2.1 q.2.2.2)
 |_=>none
def FLook:Fam:=⟨Pt×Mv×List Stk,λ(p,r,L)=>[.agg (Fo p r L)],λ(p,r,L)=>prOK p r/\FK L,λ(p,r,L)=>rLook p r L⟩
theorem pLook:PS 33 f0d:=by
 refine con [(74,d94),(44,kUp)] (by simpa using⟨pSeOf,pUp⟩) FLook (λ_ _=>none) f0d ?_ ?_ Tryz.func33 Dw Dw Dw ?_
 .intro args pre s h a;unfold f0d at h;split at h
  .simp only[Ic]at h;obtain⟨⟨q,p,r,L⟩,hx,rfl,rfl⟩:=h;obtain⟨b,c,d⟩:=Sx hx a;exact⟨(p,r,L),⟨b,J5⟩,⟨c,d⟩,rfl⟩
  .cases h
 .exact C0
 .rintro⟨p,r,L⟩ ⟨c9,c8⟩;refine X0 _ ?_;(repeat' first|constructor|intro h)<;>refine Lm ?_
  all_goals(try simp only[CU,RT.lst_row]at*)
  all_goals(first
   |exact B4
   |(have e:CS p r L=0:=by simpa using h
     first
      |(simp[zP,zR,zL,e];done)
      |(show CH p r=_;rw[(Sb e).1,e];done))
   |(have e:¬CS p r L=0:=by simpa using h
     simp[zP,zR,zL,e];done)
   |skip)
def YH:SV->Option (Prop×Pt×Mv×List Stk×List Bool×List Sm)
 |.agg [.int .i64 W,.int .i64 H,c,.int .u8 t,.int .i64 a,.int .i64 b,z,u,s]=>match PT c,KJ z,GM.as u,GA.as s with
  |some q,some v,some x,some y=>some ((MN q.1 q.2/\q.1<=100000)/\v.1/\(GM.isL x.1 x.2/\x.1<=100000)/\(GA.isL y.1 y.2/\y.1<=100000),⟨W,H,EF q.1 q.2⟩,⟨t,a,b⟩,v.2,GM.lst x.1 x.2,GA.lst y.1 y.2)
  |_,_,_,_=>none
 |_=>none
def VQ(p:Pt)(L:List Stk)(u:List Bool)(S:List Sm):Prop:=p.l.length<=100000/\FN L/\u.length<=100000/\S.length<=100000
theorem c56{x:SV}{q:Prop}{p:Pt}{r:Mv}{L:List Stk}{u:List Bool}{S:List Sm}(h:YH x=some (q,p,r,L,u,S))(f:q):x.le2 (.agg (Rl p r L u S))/\VQ p L u S:=by
 unfold YH at h;split at h
 .rename_i W H c t a b z u' s';split at h
  .rename_i g i j k;cases h;obtain⟨q1,l,d,e⟩:=f;obtain⟨m,n⟩:=c7y i l;exact⟨⟨E1,E1,Sa g q1.1,E1,E1,E1,m,GM.as_leL j d.1,GA.as_leL k e.1,J5⟩,Ha,n,by rw[RT.lst_length];exact d.2,by rw[RT.lst_length];exact e.2⟩
  .cases h
 .cases h
def LR(L:List Stk)(S:List Sm):Int:=if(S.any λs=> !decide (LM s L=0))=true then 12 else 0
def f5v(S:List Sm):Prop:=∀s∈S,s.ps.length<=100000/\s.ls.length<=100000
theorem f84{L:List Stk}(h:FN L)(c:Cl):(AF L c).length<=100000:=by
 unfold AF;split
 .rename_i s hs;exact h.2 s (M4 hs)
 .exact Je _
def b1p:AM
 | [x]=>(YH x).map λq=>(q.1/\f5v q.2.2.2.2.2,.int .i64 (LR q.2.2.2.1 q.2.2.2.2.2))
 |_=>none
def d01:Fam:=⟨Pt×Mv×List Stk×List Bool×List Sm,λ(p,r,L,u,S)=>[.agg (Rl p r L u S)],λ(p,_,L,u,S)=>VQ p L u S/\f5v S,λ(_,_,L,_,S)=>.int .i64 (LR L S)⟩
def c9n:Pt×Mv×List Stk×List Bool×List Sm->Nat->Option Inv
 |(p,r,L,u,S),2=>some {β:=Nat,ok:=λi=>i<=S.length/\∀j,j<i->LM (S.getD j BB) L=0,st:=λi=>⟨[⟨8,none,.int .i64 i⟩,⟨7,none,.int .i64 S.length⟩,⟨6,none,.sl 9 S.length (GA.row S) none⟩,⟨1,none,.own 0 0⟩],[.cells 94 (Rl p r L u S)]⟩,μ:=λi=>S.length-i}
 |_,_=>none
theorem g18{L:List Stk}{S:List Sm}{i:Nat}(hi:i<S.length)(h:¬LM (S.getD i BB) L=0):LR L S=12:=by unfold LR;rw[Iz];exact Jj.2 ⟨S.getD i BB,BW hi,E2⟩
theorem d8k{L:List Stk}{S:List Sm}(h:∀j,j<S.length->LM (S.getD j BB) L=0):LR L S=0:=by unfold LR;rw[J3];intro b;obtain⟨s,hs,a⟩:=Jj.1 b;obtain⟨i,c,rfl⟩:=HH (d:=BB) hs;rw[h i c]at a;exact absurd a Dy
theorem d09:PS 37 b1p:=by
 refine con [(79,b45)] (by simpa using d81) d01 c9n b1p ?_ ?_ Tryz.func37 Dw Dw Dw ?_
 .intro args pre s h f;unfold b1p at h;split at h
  .simp only[Ic]at h;obtain⟨⟨q,p,r,L,u,S⟩,hx,rfl,rfl⟩:=h;obtain⟨l,m⟩:=c56 hx f.1;exact⟨(p,r,L,u,S),⟨l,J5⟩,⟨m,f.2⟩,rfl⟩
  .cases h
 .exact C0
 .rintro⟨p,r,L,u,S⟩ ⟨⟨c9,a,g9,vu⟩,n⟩;refine X0 _ ?_;(repeat' first|constructor|intro h)<;>refine Lm ?_
  refine⟨(0:Nat),⟨Je _,λj c=>absurd c (Jq _)⟩,?_,?_⟩
  .exact X1b
  .intro i o;obtain⟨g,k⟩:=o;replace g:i<=S.length:=g;have hs:i<S.length->(S.getD i BB).ps.length<=100000/\(S.getD i BB).ls.length<=100000:=λh=>n _ (BW h);refine X0 _ ?_;(repeat' first|constructor|intro h)<;>refine Lm ?_
   all_goals(try simp only[Ia,RT.lst_row]at*)
   all_goals(try first
    |omega
    |exact⟨⟨BT.is_row _,CA.is_row _,AC.is_row _⟩,NT L a,hs Dv,a,f84 a⟩
    |exact A7
    |exact(d8k λj c=>k j Dv).symm)
   .have d:(!decide (LM (S.getD i BB) L=0))=true:=h;exact(g18 (i:=i) Dv (by simpa using d)).symm
   .refine⟨i+1,⟨Dv,λj c=> ?_⟩,E7,?_⟩
    .by_cases e:j<i
     .exact k j e
     .have:j=i:=Dv;subst this;have d:(!decide (LM (S.getD j BB) L=0))=false:=h;simpa using d
    .exact X1d
def IU(W H a b e:Int):Bool:=decide (AX W H a e=0)&&decide (AG W H a e=b)
def Nn(W H a b:Int):Option Int:=if IU W H a b 0=true then some 0 else if IU W H a b 1=true then some 1 else if IU W H a b 2=true then some 2 else none
def Ve(W H a b:Int):Int:=if(Nn W H a b).isSome=true then a else 0
def WJ(W H a b:Int):Int:=(Nn W H a b).getD 0
def d4f(W H a b:Int):SV:=.agg [.int .i64 (Ve W H (min a b) (max a b)),.int .u8 (WJ W H (min a b) (max a b))]
def b9t:AM
 | [.agg [.int .i64 W,.int .i64 H],.agg [.int .u8 _,.int .i64 a,.int .i64 b]]=>some (True,d4f W H a b)
 |_=>none
def g00:Fam:=⟨(Int×Int)×Int×Int×Int,λ((W,H),s,a,b)=>[.agg [.int .i64 W,.int .i64 H],.agg [.int .u8 s,.int .i64 a,.int .i64 b]],λ_=>True,λ((W,H),_,a,b)=>d4f W H a b⟩
def f7g:(Int×Int)×Int×Int×Int->Nat->Option Inv
 |((W,H),s,a,b),3=>some {β:=Nat,ok:=λi=>i<=3/\∀j:Nat,j<i->IU W H (min a b) (max a b) j=false,st:=λi=>⟨[⟨20,none,.int .u8 i⟩,⟨6,none,.int .i64 (max a b)⟩,⟨5,none,.int .i64 (min a b)⟩,⟨4,none,.own 2 0⟩,⟨2,none,.own 0 0⟩],[.cells 26 [.int .i64 W,.int .i64 H],.cells 158 [.int .u8 s,.int .i64 a,.int .i64 b],.cells 100 [.int .i64 0,.int .u8 0]]⟩,μ:=λi=>3-i}
 |_,_=>none
theorem f6u{W H a b:Int}{i:Nat}(hi:i<3)(h:∀j:Nat,j<i->IU W H a b j=false)(c:IU W H a b i=true):Nn W H a b=some (i:Int):=by
 rcases(show i=0\/i=1\/i=2 from Dv)with rfl|rfl|rfl
 .exact Iz c
 .have d:¬IU W H a b 0=true:=I7;unfold Nn;rw[if_neg d];exact if_pos c
 .have d:¬IU W H a b 0=true:=I7;have e:¬IU W H a b 1=true:=I9;unfold Nn;rw[if_neg d,if_neg e];exact if_pos c
theorem f12{W H a b:Int}(h:∀j:Nat,j<3->IU W H a b j=false):Nn W H a b=none:=by
 have c:¬IU W H a b 0=true:=I7;have d:¬IU W H a b 1=true:=I9;have e:¬IU W H a b 2=true:=by rw[show IU W H a b 2=false from h 2 Dy];decide
 unfold Nn;rw[if_neg c,if_neg d,if_neg e]
theorem f94:PS 75 b9t:=by
 refine con [(110,UG)] (by simpa using b1j) g00 f7g b9t ?_ ?_ Tryz.func75 Dw Dw Dw ?_
 .intro args pre s h hp;unfold b9t at h;split at h
  .rename_i W H s a b;cases h;exact⟨((W,H),s,a,b),⟨Eb,Eb,J5⟩,J5,rfl⟩
  .cases h
 .exact Bz
 .rintro⟨⟨W,H⟩,s,a,b⟩ _;refine X0 _ ?_;(repeat' first|constructor|intro h)<;>refine Lm ?_
  refine⟨(0:Nat),⟨Je _,λj d=>absurd d (Jq _)⟩,?_,?_⟩
  .exact X1b
  .intro i k;obtain⟨g,f⟩:=k;replace g:i<=3:=g;refine X0 _ ?_;(repeat' first|constructor|intro h)<;>refine Lm ?_
   all_goals(try simp only[Ia]at*)
   all_goals(try first
    |exact Ap
    |(have e:=f6u (i:=i) Dv f (by unfold IU;assumption);simp[Ve,WJ,e];done)
    |(have e:=f12 λj d=>f j Dv;simp[Ve,WJ,e];done))
   .refine⟨i+1,⟨Dv,λj d=> ?_⟩,E7,?_⟩
    .by_cases e:j<i
     .exact f j e
     .have:j=i:=Dv;subst this;unfold IU;assumption
    .exact X1d
def TU(u:List Bool)(b:Int):Int:=if u.getD b.toNat GM.d=true then 1 else 2
def b99:AM
 | [x,.agg [.int .u8 _,.int .i64 _,.int .i64 b]]=>(YH x).map λq=>(q.1/\0<=b/\b<q.2.2.2.2.1.length,.int .u8 (TU q.2.2.2.2.1 b))
 |_=>none
def f6b:Fam:=⟨(Pt×Mv×List Stk×List Bool×List Sm)×Int×Int×Int,λ((p,r,L,u,S),s,a,b)=>[.agg (Rl p r L u S),.agg [.int .u8 s,.int .i64 a,.int .i64 b]],λ((p,_,L,u,S),_,_,b)=>VQ p L u S/\0<=b/\b<u.length,λ((_,_,_,u,_),_,_,b)=>.int .u8 (TU u b)⟩
theorem f6n:PS 76 b99:=by
 refine con [] Dx f6b (λ_ _=>none) b99 ?_ ?_ Tryz.func76 Dw Dw Dw ?_
 .intro args pre s h c;unfold b99 at h;split at h
  .rename_i x d a b;simp only[Ic]at h;obtain⟨⟨q,p,r,L,u,S⟩,hx,rfl,rfl⟩:=h;obtain⟨e,f⟩:=c56 hx c.1;exact⟨((p,r,L,u,S),d,a,b),⟨e,Eb,J5⟩,⟨f,c.2⟩,rfl⟩
  .cases h
 .exact Bz
 .rintro⟨⟨p,r,L,u,S⟩,s,a,b⟩ c;replace c:VQ p L u S/\0<=b/\b<u.length:=c;refine X0 _ ?_;(repeat' first|constructor|intro h)<;>refine Lm ?_
  all_goals(first
   |omega
   |exact(Iz h).symm
   |exact(J3 (by rw[h];decide)).symm
   |skip)
def Sr(v:List Int->List SV)(q:List Int):Int:=match v q with
 | [.int _ m]=>m
 |_=>0
def Ro(h:List Int->Bool)(g:List Int->Int)(w:Bool):List Blk:=[.cells 4 [.bool w],.cells 97 [.omp 2],.map (.ints [.i64,.u8]) false h (λq=>[.int .u8 (g q)])]
def Vw(g:List Int->Int)(q:List Int)(k:Int):Bool:= !decide (g q=3)&& !decide (g q=k)
def chFit(h:List Int->Bool)(v:List Int->List SV):Prop:=(∀q,v q=[.int .u8 (Sr v q)])/\∀q,h q=false->Sr v q=0
def f0p:HK:=λa own=>match a,own with
 | [.agg [.int .i64 c,.int .u8 e],.int .u8 k,.own 0 0,.own 1 0],[.cells b [.bool w],.cells d [.omp 2],.map K f h v]=>if b=4/\d=97/\K=.ints [.i64,.u8]/\f=false then some ⟨chFit h v,.tup [],Ro h (Sr v) (w||Vw (Sr v) [c,e] k),[]⟩else none
 |_,_=>none
def FChk1:FamH:=⟨(Int×Int×Int)×(List Int->Bool)×(List Int->Int)×Bool,λ((c,e,k),_)=>[.agg [.int .i64 c,.int .u8 e],.int .u8 k,.own 0 0,.own 1 0],λ(_,h,g,w)=>Ro h g w,λ(_,h,g,_)=>∀q,h q=false->g q=0,λ_=>.tup [],λ((c,e,k),h,g,w)=>Ro h g (w||Vw g [c,e] k),[]⟩
theorem pChk1:HS 38 f0p:=by
 refine HG {} ⟨Dx,Dx,Dx⟩ FChk1 (λ_ _=>none) f0p ?_ ?_ ?_ Tryz.func38 Dw Dw Dw ?_
 .intro args own r h a;unfold f0p at h;split at h
  .rename_i c e k T1 w T2 K ag hs v;split at h
   .rename_i b;obtain⟨rfl,rfl,rfl,rfl⟩:=b;cases h;obtain⟨d,f⟩:=a;refine⟨((c,e,k),hs,Sr v,w),⟨Eb,E4,E4,E4,J5⟩,rfl,⟨⟨Eh,E1,J5⟩,⟨Eh,E1,J5⟩,⟨⟨rfl,rfl⟩,λ_=>rfl,λq _=>d q⟩,J5⟩,f,rfl,rfl,rfl⟩
   .cases h
  .cases h
 .intro i;show 4<=_;decide
 .intro i;show 3<=3;decide
 .rintro⟨⟨c,e,k⟩,hs,g,w⟩ μ a;replace a:∀q,hs q=false->g q=0:=a;refine X0 _ ?_;(repeat' first|constructor|intro h)<;>refine Lm ?_
  all_goals(first
   |exact λ_ j=>by rw[a _ j];kernel_rfl
   |exact B8
   |exact Bp
   |rfl
   |skip)
def RD(p:Pt)(u:List Bool)(x:Lo):List Int×Int:=([Ve p.W p.H (min x.a x.b) (max x.a x.b),WJ p.W p.H (min x.a x.b) (max x.a x.b)],TU u x.b)
def Tt(p:Pt)(u:List Bool)(g:List Int->Int)(l:List Lo):Bool:=l.any λx=>Vw g (RD p u x).1 (RD p u x).2
def MV(p:Pt)(u:List Bool)(g:List Int->Int)(S:List Sm):Bool:=S.any λs=>Tt p u g s.ls
def loIn(u:List Bool)(S:List Sm):Prop:=∀s∈S,s.ls.length<=100000/\∀x∈s.ls,0<=x.b/\x.b<u.length
def c9d:HK:=λa own=>match a,own with
 | [x,.clo f [.own 0 0,.own 1 0]],[.cells b [.bool w],.cells c [.omp 2],.map K d h v]=>if f=38/\b=4/\c=97/\K=.ints [.i64,.u8]/\d=false then
     (YH x).map λq=>⟨chFit h v/\q.1/\loIn q.2.2.2.2.1 q.2.2.2.2.2,.tup [],Ro h (Sr v) (w||MV q.2.1 q.2.2.2.2.1 (Sr v) q.2.2.2.2.2),[]⟩else none
 |_,_=>none
def FLoops:FamH:=⟨(Pt×Mv×List Stk×List Bool×List Sm)×(List Int->Bool)×(List Int->Int)×Bool,λ((p,r,L,u,S),_)=>[.agg (Rl p r L u S),.clo 38 [.own 0 0,.own 1 0]],λ(_,h,g,w)=>Ro h g w,λ((p,_,L,u,S),h,g,_)=>VQ p L u S/\loIn u S/\∀q,h q=false->g q=0,λ_=>.tup [],λ((p,_,_,u,S),h,g,w)=>Ro h g (w||MV p u g S),[]⟩
def ILoops:(Pt×Mv×List Stk×List Bool×List Sm)×(List Int->Bool)×(List Int->Int)×Bool->Nat->Option Inv
 |((p,r,L,u,S),h,g,w),2=>some {β:=Nat,ok:=λi=>i<=S.length,st:=λi=>⟨[⟨11,none,.int .i64 i⟩,⟨10,none,.int .i64 S.length⟩,⟨9,none,.sl 9 S.length (GA.row S) none⟩,⟨2,none,.own 3 0⟩,⟨1,none,.clo 38 [.own 0 0,.own 1 0]⟩],Ro h g (w||MV p u g (S.take i))++[.cells 94 (Rl p r L u S)]⟩,μ:=λi=>S.length-i,sub:=λi=>some fun
  |5=>some {β:=Nat,ok:=λk=>k<=(S.getD i GA.d).ls.length,st:=λk=>⟨[⟨18,none,.int .i64 k⟩,⟨17,none,.int .i64 (S.getD i GA.d).ls.length⟩,⟨16,none,.sl 3 (S.getD i GA.d).ls.length (CA.row (S.getD i GA.d).ls) none⟩,⟨11,none,.int .i64 i⟩,⟨10,none,.int .i64 S.length⟩,⟨9,none,.sl 9 S.length (GA.row S) none⟩,⟨2,none,.own 3 0⟩,⟨1,none,.clo 38 [.own 0 0,.own 1 0]⟩],Ro h g (w||MV p u g (S.take i)||Tt p u g ((S.getD i GA.d).ls.take k))++[.cells 94 (Rl p r L u S)]⟩,μ:=λk=>(S.getD i GA.d).ls.length-k}
  |_=>none}
 |_,_=>none
theorem f22{p:Pt}{u:List Bool}{g:List Int->Int}{S:List Sm}{i:Nat}(hi:i<S.length):MV p u g (S.take (i+1))=(MV p u g (S.take i)||Tt p u g (S.getD i GA.d).ls):=by rw[JD (d:=GA.d) hi];simp[MV]
theorem d96{p:Pt}{u:List Bool}{g:List Int->Int}{l:List Lo}{i:Nat}(hi:i<l.length):Tt p u g (l.take (i+1))=(Tt p u g (l.take i)||Vw g (RD p u (l.getD i CA.d)).1 (RD p u (l.getD i CA.d)).2):=by rw[JD (d:=CA.d) hi];simp[Tt]
theorem pLoops:HS 34 c9d:=by
 refine HG {l:=[(75,b9t),(76,b99)],h:=[(38,f0p)],c2:=true} ⟨by simpa using⟨f94,f6n⟩,Dx,by simpa using pChk1⟩ FLoops ILoops c9d ?_ ?_ ?_ Tryz.func34 Dw Dw Dw ?_
 .intro args own r h z;unfold c9d at h;split at h
  .rename_i x f T1 w T2 K ag hs v;split at h
   .rename_i A;obtain⟨rfl,rfl,rfl,rfl,rfl⟩:=A;simp only[J7]at h;obtain⟨⟨q,p,B,L,u,S⟩,hx,rfl⟩:=h;obtain⟨⟨c,e⟩,j,m⟩:=z;obtain⟨C,E⟩:=c56 hx j;refine⟨((p,B,L,u,S),hs,Sr v,w),⟨C,⟨rfl,rfl⟩,J5⟩,rfl,⟨⟨Eh,E1,J5⟩,⟨Eh,E1,J5⟩,⟨⟨rfl,rfl⟩,λ_=>rfl,λq _=>c q⟩,J5⟩,⟨E,m,e⟩,rfl,rfl,rfl⟩
   .cases h
  .cases h
 .exact Bz
 .intro i;show 3<=3;decide
 .rintro⟨⟨p,r,L,u,S⟩,hs,g,w⟩ μ ⟨⟨c,e,j,m⟩,F,n⟩;refine X0 _ ?_;(repeat' first|constructor|intro h)<;>refine Lm ?_
  refine⟨(0:Nat),Je _,?_,?_⟩
  .exact X1f
  .intro i s;replace s:i<=S.length:=s;have G:i<S.length->(S.getD i GA.d).ls.length<=100000/\∀x∈(S.getD i GA.d).ls,0<=x.b/\x.b<u.length:=λh=>F _ (BW h);refine X0 _ ?_;(repeat' first|constructor|intro h)<;>refine Lm ?_
   all_goals(try simp only[Ia]at*)
   all_goals(try first
    |exact Ap
    |exact λ_=>J5
    |exact λ_ _=>J5
    |(rw[L6 Dv];done))
   .have t:i<S.length:=Dv;obtain⟨hl1,H⟩:=G t;refine⟨(0:Nat),Je _,?_,?_⟩
    .exact X1f
    .intro k y;replace y:k<=(S.getD i GA.d).ls.length:=y;have hx:k<(S.getD i GA.d).ls.length->0<=((S.getD i GA.d).ls.getD k CA.d).b/\((S.getD i GA.d).ls.getD k CA.d).b<u.length:=λh=>H _ (BW h);refine X0 _ ?_;(repeat' first|constructor|intro h)<;>refine Lm ?_
     all_goals(try simp only[Ia,RT.lst_row]at*)
     all_goals(try first
      |exact Ap
      |exact⟨⟨⟨FF _,c⟩,NT L e,⟨GM.isL_row _,j⟩,GA.isL_row _,m⟩,hx Dv⟩
      |exact⟨λ_=>rfl,n⟩)
     .have o:k<(S.getD i GA.d).ls.length:=Dv;refine⟨k+1,by show k+1<=_;omega,Eu,?_⟩;refine X0 _ ?_;(repeat' first|constructor|intro h)<;>refine Lm ?_
      all_goals first|exact Ad|(rw[d96 o,<-Bool.or_assoc];rfl)|skip
     .have o:k=(S.getD i GA.d).ls.length:=Dv;subst o;refine⟨i+1,Ea,E7,?_⟩;refine X0 _ ?_;(repeat' first|constructor|intro h)<;>refine Lm ?_
      all_goals first|exact Ad|(rw[f22 t,Kx,Bool.or_assoc];done)|skip
section
variable{p:Pt}{r:Mv}{L:List Stk}
theorem f73(S:SkOK p r L):(FP p r).length=AJ p.W p.H:=by unfold FP;rw[List.length_map];exact S.P.pl
theorem ofS_ok(b:prOK p r)(c:FK L)(h:CS p r L=0):VQ p L (FP p r) (DW p r L)/\f5v (DW p r L)/\loIn (FP p r) (DW p r L):=by
 have S:=d6b h b.2.1 c.2.1;have hN:=CR S.hs;have e:=Tv (Ao p r L) (3*AJ p.W p.H);have hu:=f73 S;have hk:(DX p r L).length=(DY (Ao p r L) (3*AJ p.W p.H)).length:=b4t;have one:∀s∈DW p r L,∃t,t∈DY (Ao p r L) (3*AJ p.W p.H)/\s=JK (Ao p r L) t:=by
  intro s hs;obtain⟨i,g,rfl⟩:=HH (d:=BB) hs;have f:i<(DX p r L).length:=by rw[<-b9v h];exact g
  exact⟨_,BW (d:=BB) (LA (VV f)),c4c h f⟩
 refine⟨⟨b.1.1,c.1,Dv,by rw[b9v h];omega⟩,λs hs=> ?_,λs hs=> ?_⟩
 .obtain⟨t,a,rfl⟩:=one s hs;obtain⟨j,k,_⟩:=e.2 t a;exact⟨Hf,Hf⟩
 .obtain⟨t,a,rfl⟩:=one s hs;obtain⟨j,k,_⟩:=e.2 t a;refine⟨Hf,λx hx=> ?_⟩;have:=((Xl S _ (J9 _) t a).ls x ((QJ _ _ _).1 hx)).2.1.2;unfold AU at this;omega
end
theorem OC(p:Pt):(⟨p.W,p.H,p.l⟩:Pt)=p:=rfl
theorem Ns(r:Mv):(⟨r.t,r.x,r.y⟩:Mv)=r:=rfl
def MI(l:List Cr)(q:List Int):Int:=l.foldl (λa c=>if GD q c=true then c.k else a) 0
theorem c8i{l:List Cr}{i:Nat}(hi:i<l.length)(q:List Int):MI (l.take (i+1)) q=if GD q (l.getD i d0)=true then(l.getD i d0).k else MI (l.take i) q:=by
 have:l.take (i+1)=l.take i++[l.getD i d0]:=by rw[M0];congr 1;simp[hi]
 unfold MI;rw[this,List.foldl_append];rfl
theorem f66{l:List Cr}{i:Nat}(hi:i<l.length)(q:List Int):DC (decide (q=[(l.getD i d0).c,(l.getD i d0).e])) [SV.int .u8 (l.getD i d0).k] [SV.int .u8 (MI (l.take i) q)]=[SV.int .u8 (MI (l.take (i+1)) q)]:=by
 rw[c8i hi];unfold GD;by_cases e:q=[(l.getD i d0).c,(l.getD i d0).e]
 .rw[Jf e,Iz rfl];rfl
 .rw[Ji e,J3 Bool.false_ne_true];rfl
theorem f4k{l:List Cr}{q:List Int}(h:EE l q=false):MI l q=0:=by
 have:∀(l:List Cr) (a:Int),l.any (GD q)=false->l.foldl (λa c=>if GD q c=true then c.k else a) a=a:=by
  intro l;induction l with
  |nil=>intro a _;rfl
  |cons c l b=>
   intro a h;simp only[List.any_cons,Kk]at h;simp only[M1,h.1,Ik];exact b a h.2
 exact this l 0 h
def FS(p:Pt)(r:Mv)(L:List Stk):Int:=
 if¬CS p r L=0 then CS p r L else if¬LR L (DW p r L)=0 then LR L (DW p r L)else if MV p (FP p r) (MI p.l) (DW p r L)=true then 13 else 0
def TA:AM
 | [x]=>(Ox x).map λq=>(q.1,.int .i64 (FS q.2.1 q.2.2.1 q.2.2.2))
 |_=>none
def FCheck:Fam:=⟨Pt×Mv×List Stk,λ(p,r,L)=>[.agg (Fo p r L)],λ(p,r,L)=>prOK p r/\FK L,λ(p,r,L)=>.int .i64 (FS p r L)⟩
def ICheck:Pt×Mv×List Stk->Nat->Option Inv
 |(p,r,L),9=>some {β:=Nat,ok:=λi=>i<=p.l.length,st:=λi=>⟨[⟨28,none,.int .i64 i⟩,⟨27,none,.int .i64 p.l.length⟩,⟨26,none,.sl 3 p.l.length (DZ p.l) none⟩,⟨6,none,.own 3 0⟩,⟨3,none,.own 1 0⟩],[.cells 34 (Fo p r L),.cells 94 (Rl p r L (FP p r) (DW p r L)),.map (.ints [.i64,.u8]) false (EE (p.l.take i)) (λq=>[.int .u8 (MI (p.l.take i) q)]),.cells 97 [.omp 2]]⟩,μ:=λi=>p.l.length-i}
 |_,_=>none
theorem c5u:PS 12 TA:=by
 refine Np {l:=[(33,f0d),(37,b1p)],h:=[(34,c9d)],c2:=true} ⟨by simpa using⟨pLook,d09⟩,Dx,by simpa using pLoops⟩ FCheck ICheck TA ?_ ?_ Tryz.func12 Dw Dw Dw ?_
 .intro args pre s h n;unfold TA at h;split at h
  .simp only[Ic]at h;obtain⟨⟨q,p,r,L⟩,hx,rfl,rfl⟩:=h;obtain⟨c,o,t⟩:=Sx hx n;exact⟨(p,r,L),⟨c,J5⟩,⟨o,t⟩,rfl⟩
  .cases h
 .exact C0
 .rintro⟨p,r,L⟩ ⟨c9,c8⟩;refine X0 _ ?_;(repeat' first|constructor|intro h)<;>refine Lm ?_
  all_goals(try simp only[CU,RT.lst_row,OC,Ns]at*)
  .exact Dq
  .exact(Iz E2).symm
  all_goals
   have e:CS p r L=0:=by first|(simpa using h;done)|(rename_i c;simpa using c;done)
   have f:¬¬CS p r L=0:=λu=>u e;obtain⟨⟨k1,k2,k3,k4⟩,k5,k6⟩:=ofS_ok c9 c8 e;simp only[zP,zR,zL,Iz e]at*
  .exact⟨⟨⟨FF _,k1⟩,NT L k2,⟨GM.isL_row _,k3⟩,GA.isL_row _,k4⟩,k5⟩
  .have b:¬LR L (DW p r L)=0:=E2;unfold FS;rw[J3 f,Iz b]
  .have b:¬¬LR L (DW p r L)=0:=E2;refine⟨(0:Nat),Je _,?_,?_⟩
   .refine X0 _ ?_;(repeat' first|constructor|intro h)<;>refine Lm ?_
    all_goals first|exact Ad|(intro q;first|rfl|(intro g;exact absurd g (by simp[EE])))|skip
   .intro i k;replace k:i<=p.l.length:=k;refine X0 _ ?_;(repeat' first|constructor|intro h)<;>refine Lm ?_
    all_goals(try simp only[Ia,CU,RT.lst_row,OC]at*)
    all_goals(try first
     |omega
     |(simp only[AE];have:=c9.1.1;omega)
     |exact⟨⟨λ_=>rfl,λ_ g=>f4k g⟩,⟨⟨FF _,k1⟩,NT L k2,⟨GM.isL_row _,k3⟩,GA.isL_row _,k4⟩,k6⟩)
    .have m:i<p.l.length:=Dv;refine⟨i+1,Ea,E7,?_⟩;refine X0 _ ?_;(repeat' first|constructor|intro h)<;>refine Lm ?_
     all_goals first|exact Ad|exact λq=>b7k m q|exact λq _=>f66 m q|skip
    .have j:i=p.l.length:=Dv;subst j;have a:(false||MV p (FP p r) (MI (List.take p.l.length p.l)) (DW p r L))=true:=h;rw[Kx,N4]at a;unfold FS;rw[J3 f,J3 b,Iz a]
    .have j:i=p.l.length:=Dv;subst j;have a:(false||MV p (FP p r) (MI (List.take p.l.length p.l)) (DW p r L))=false:=h;rw[Kx,N4]at a;unfold FS;rw[J3 f,J3 b,J3 (by rw[a];decide)]
theorem d6n{A B:List Stk}(h:A.Perm B):(BG A).length=(BG B).length:=by unfold BG;exact(List.Perm.flatMap_right _ h).length_eq
theorem f2v{A:List Stk}{f:Stk->Stk}(h:∀s,(f s).l.length=s.l.length):(BG (A.map f)).length=(BG A).length:=by
 induction A with
 |nil=>rfl
 |cons s A a=>
  have b:(BG ((s::A).map f)).length=(f s).l.length+(BG (A.map f)).length:=by simp[BG]
  have c:(BG (s::A)).length=s.l.length+(BG A).length:=by simp[BG]
  rw[b,c,h,a]
theorem SW{p:Pt}{r:Mv}{L:List Stk}(a:prOK p r)(b:FK L):((MN p.l.length (DZ p.l)/\p.l.length<=100000)/\(∀x∈p.l,AE .u8 x.e)/\0<=r.t/\r.t<=255)/\(AA.isL L.length (AA.row L)/\L.length<=100000/\∀s∈L,s.l.length<=100000)/\(∀x∈L,AE .u8 x.c.q)/\(BG L).length<=100000:=
 ⟨⟨⟨FF _,a.1.1⟩,a.1.2,a.2⟩,NT L b.1,b.2⟩
theorem pr_pre{p:Pt}{r:Mv}(a:prOK p r):((MN p.l.length (DZ p.l)/\p.l.length<=100000)/\∀c∈p.l,AE .u8 c.e)/\0<=r.t/\r.t<=255:=⟨⟨⟨FF _,a.1.1⟩,a.1.2⟩,a.2⟩
theorem d49{A:List Stk}(h:FN A):AA.isL A.length (AA.row A)/\A.length<=100000/\∀s∈A,s.l.length<=100000:=NT A h
def HW:RT (Int×Int):=⟨2,λx=>[.int .u8 x.1,.int .i64 x.2],λl=>match l with
 | [.int _ a,.int _ b]=>(a,b)
 |_=>(0,0),(0,0),λ_=>rfl⟩
def CP:RT Cr:=⟨3,λx=>[.int .i64 x.c,.int .u8 x.e,.int .u8 x.k],λl=>match l with
 | [.int _ a,.int _ b,.int _ c]=>⟨a,b,c⟩
 |_=>⟨0,0,0⟩,⟨0,0,0⟩,λ_=>rfl⟩
def NM(x:Cr):List Int:=[x.c,x.e]
theorem b20(p:Pt)(r:Mv)(L:List Stk):∃q,Ox (.agg (Fo p r L))=some (q,p,r,L)/\(prOK p r->FK L->q):=by
 have b:(⟨p.W,p.H,EF p.l.length (DZ p.l)⟩:Pt)=p:=by rw[CU]
 have c:AA.lst L.length (AA.row L)=L:=RT.lst_row _ _;have a:∃q,Ox (.agg (Fo p r L))=some (q,⟨p.W,p.H,EF p.l.length (DZ p.l)⟩,⟨r.t,r.x,r.y⟩,AA.lst L.length (AA.row L))/\(prOK p r->FK L->q):=⟨_,rfl,λd e=>by have:=SW d e;simp only[RT.lst_row,CU];exact this⟩
 rw[b,c]at a;exact a
def Yf:AM
 | [.int .i64 a,.int .i64 b]=>some (b=6/\ -1000000<=a/\a<=1000000,.int .i64 (a/6))
 |_=>none
def FDn:Fam:=⟨Int×Int,λ(a,b)=>[.int .i64 a,.int .i64 b],λ(a,b)=>b=6/\ -1000000<=a/\a<=1000000,λ(a,_)=>.int .i64 (a/6)⟩
theorem pDn:PS 51 Yf:=by
 refine con [] Dx FDn (λ_ _=>none) Yf ?_ ?_ Tryz.func51 Dw Dw Dw ?_
 .intro args pre s h e;unfold Yf at h;split at h
  .rename_i a b;cases h;exact⟨(a,b),by simp[FDn,BM,SV.le2,SV.le1,SV.le0],e,rfl⟩
  .cases h
 .exact Bz
 .rintro⟨a,b⟩ ⟨rfl,h1,h2⟩;have c:0<=a->a.tdiv 6=a/6:=λh=>Lc h;have f:a<0-> -((-a+6-1).tdiv 6)=a/6:=λh=>by rw[Lc Dv];omega
  have d:a<0->(-a+6-1).tdiv 6=(-a+6-1)/6:=λh=>Lc Dv;refine X0 _ ?_;(repeat' first|constructor|intro h)<;>refine Lm ?_
  all_goals(try simp only[Ig]at*)
  all_goals(first
   |exact c Dv
   |exact f Dv
   |decide
   |exact A7
   |(rw[d Dv];simp only[AE];omega)
   |(rw[c Dv];simp only[AE];omega)
   |(intro _;rw[d Dv];simp only[AE];omega)
   |(intro _;rw[c Dv];simp only[AE];omega)
   |skip)
def atQ(X Y:Int):Int:=if Y%6<X%6/\X%6+Y%6<6 then 0 else if Y%6<X%6 then 1 else if 6<X%6+Y%6 then 2 else 3
def f01:AM
 | [.agg [.int .i64 X,.int .i64 Y]]=>some ((-1000000<=X/\X<=1000000)/\ -1000000<=Y/\Y<=1000000,.agg [.int .i64 (X/6),.int .i64 (Y/6),.int .u8 (atQ X Y)])
 |_=>none
def FAt25:Fam:=⟨Int×Int,λ(X,Y)=>[.agg [.int .i64 X,.int .i64 Y]],λ(X,Y)=>(-1000000<=X/\X<=1000000)/\ -1000000<=Y/\Y<=1000000,λ(X,Y)=>.agg [.int .i64 (X/6),.int .i64 (Y/6),.int .u8 (atQ X Y)]⟩
theorem pAt25:PS 48 f01:=by
 refine con [(51,Yf)] (by simpa using pDn) FAt25 (λ_ _=>none) f01 ?_ ?_ Tryz.func48 Dw Dw Dw ?_
 .intro args pre s h a;unfold f01 at h;split at h
  .rename_i X Y;cases h;exact⟨(X,Y),by simp[FAt25,BM,SV.le2,SV.le1,BH,SV.le0],a,rfl⟩
  .cases h
 .exact C0
 .rintro⟨X,Y⟩ a;replace a:(-1000000<=X/\X<=1000000)/\ -1000000<=Y/\Y<=1000000:=a;refine X0 _ ?_;(repeat' first|constructor|intro h)<;>refine Lm ?_
  all_goals(try simp only[Ig,If]at*)
  all_goals(first
   |omega
   |decide
   |exact⟨rfl,Dv,Dv⟩
   |exact⟨J5,Dv,Dv⟩
   |exact A7
   |exact An
   |(unfold atQ;repeat (first|rw[if_pos Dv]|rw[if_neg Dv]))
   |skip)
def NG(X Q:Int):Nat->Int:=tb [6*X+3,if Q=0 then 6*X else if Q=1 then 6*X+6 else if Q=2 then 6*X+6 else 6*X,if Q=0 then 6*X+6 else if Q=1 then 6*X+6 else 6*X]
def NB(Y Q:Int):Nat->Int:=tb [6*Y+3,if Q=0 then 6*Y else if Q=1 then 6*Y else if Q=2 then 6*Y+6 else 6*Y+6,if Q=0 then 6*Y else if Q=1 then 6*Y+6 else if Q=2 then 6*Y+6 else 6*Y]
def kCn:AM
 | [.agg [.int .i64 X,.int .i64 Y,.int .u8 Q]]=>some ((-30000<=X/\X<=30000)/\ -30000<=Y/\Y<=30000,.agg [.int .i64 (NG X Q 0),.int .i64 (NB Y Q 0),.int .i64 (NG X Q 1),.int .i64 (NB Y Q 1),.int .i64 (NG X Q 2),.int .i64 (NB Y Q 2)])
 |_=>none
def FCn:Fam:=⟨Int×Int×Int,λ(X,Y,Q)=>[.agg [.int .i64 X,.int .i64 Y,.int .u8 Q]],λ(X,Y,_)=>(-30000<=X/\X<=30000)/\ -30000<=Y/\Y<=30000,λ(X,Y,Q)=>.agg [.int .i64 (NG X Q 0),.int .i64 (NB Y Q 0),.int .i64 (NG X Q 1),.int .i64 (NB Y Q 1),.int .i64 (NG X Q 2),.int .i64 (NB Y Q 2)]⟩
theorem pCn:PS 64 kCn:=by
 refine con [] Dx FCn (λ_ _=>none) kCn ?_ ?_ Tryz.func64 Dw Dw Dw ?_
 .intro args pre s h a;unfold kCn at h;split at h
  .rename_i X Y Q;cases h;exact⟨(X,Y,Q),by simp[FCn,BM,SV.le2,SV.le1,BH,SV.le0],a,rfl⟩
  .cases h
 .exact C0
 .rintro⟨X,Y,Q⟩ a;replace a:(-30000<=X/\X<=30000)/\ -30000<=Y/\Y<=30000:=a;refine X0 _ ?_;(repeat' first|constructor|intro h)<;>refine Lm ?_
  all_goals(try simp only[AE])
  all_goals(try omega)
  all_goals(simp only[Ig]at*)
  all_goals(try subst Q)
  all_goals(first|(simp[NG,NB,tb, *];done)|skip)
def HX(X Q:Int):Int:=if Q=1 then 6*X+5 else if Q=3 then 6*X+1 else 6*X+3
def Ho(Y Q:Int):Int:=if Q=0 then 6*Y+1 else if Q=2 then 6*Y+5 else 6*Y+3
def d5u:AM
 | [.agg [.int .i64 X,.int .i64 Y,.int .u8 Q]]=>some ((-30000<=X/\X<=30000)/\(-30000<=Y/\Y<=30000)/\0<=Q/\Q<=3,.agg [.int .i64 (HX X Q),.int .i64 (Ho Y Q)])
 |_=>none
def FIn25:Fam:=⟨Int×Int×Int,λ(X,Y,Q)=>[.agg [.int .i64 X,.int .i64 Y,.int .u8 Q]],λ(X,Y,Q)=>(-30000<=X/\X<=30000)/\(-30000<=Y/\Y<=30000)/\0<=Q/\Q<=3,λ(X,Y,Q)=>.agg [.int .i64 (HX X Q),.int .i64 (Ho Y Q)]⟩
theorem pIn25:PS 50 d5u:=by
 refine con [(64,kCn)] (by simpa using pCn) FIn25 (λ_ _=>none) d5u ?_ ?_ Tryz.func50 Dw Dw Dw ?_
 .intro args pre s h a;unfold d5u at h;split at h
  .rename_i X Y Q;cases h;exact⟨(X,Y,Q),by simp[FIn25,BM,SV.le2,SV.le1,BH,SV.le0],a,rfl⟩
  .cases h
 .exact C0
 .rintro⟨X,Y,Q⟩ a;replace a:(-30000<=X/\X<=30000)/\(-30000<=Y/\Y<=30000)/\0<=Q/\Q<=3:=a;have b:Q=0\/Q=1\/Q=2\/Q=3:=Dv;have f:(NG X Q 0+NG X Q 1+NG X Q 2)=3*HX X Q:=by
   rcases b with rfl|rfl|rfl|rfl<;>simp[NG,tb,HX]<;>omega
  have g:(NB Y Q 0+NB Y Q 1+NB Y Q 2)=3*Ho Y Q:=by rcases b with rfl|rfl|rfl|rfl<;>simp[NB,tb,Ho]<;>omega
  have c:∀i,i<3-> -200000<=NG X Q i/\NG X Q i<=200000:=λi j=>by have d:i=0\/i=1\/i=2:=Dv;rcases d with rfl|rfl|rfl<;>rcases b with rfl|rfl|rfl|rfl<;>simp[NG,tb]<;>omega
  have e:∀i,i<3-> -200000<=NB Y Q i/\NB Y Q i<=200000:=λi j=>by have d:i=0\/i=1\/i=2:=Dv;rcases d with rfl|rfl|rfl<;>rcases b with rfl|rfl|rfl|rfl<;>simp[NB,tb]<;>omega
  have x0:=c 0 Dv;have x1:=c 1 Dv;have x2:=c 2 Dv;have y0:=e 0 Dv;have y1:=e 1 Dv;have y2:=e 2 Dv;have k:(3*HX X Q).tdiv 3=HX X Q:=Int.mul_tdiv_cancel_left _ Dv;have l:(3*Ho Y Q).tdiv 3=Ho Y Q:=Int.mul_tdiv_cancel_left _ Dv;refine X0 _ ?_;(repeat' first|constructor|intro h)<;>refine Lm ?_
  all_goals(try simp only[f,g,k,l])
  all_goals(first|exact Au|exact⟨⟨Dv,Dv⟩,Dv,Dv⟩|exact A7|exact An|decide|skip)
def kL25:AM
 | [.int .i64 a,.int .i64 b]=>some (True,.int .i64 (max a b))
 |_=>none
def FL25:Fam:=⟨Int×Int,λ(a,b)=>[.int .i64 a,.int .i64 b],λ(_,_)=>True,λ(a,b)=>.int .i64 (max a b)⟩
theorem pL25:PS 81 kL25:=by
 refine con [] Dx FL25 (λ_ _=>none) kL25 ?_ ?_ Tryz.func81 Dw Dw Dw ?_
 .intro args pre s h c;unfold kL25 at h;split at h
  .rename_i a b;cases h;exact⟨(a,b),by simp[FL25,BM,SV.le2,SV.le1,SV.le0],c,rfl⟩
  .cases h
 .exact Bz
 .rintro⟨a,b⟩ c;replace c:True:=c;refine X0 _ ?_;(repeat' first|constructor|intro h)<;>refine Lm ?_
  all_goals(simp only[Ig]at*)
  all_goals(first|omega|skip)
def EU(a b:Int×Int×Int):Int×Int×Int:=if a.1≠b.1 then(4,2*max a.1 b.1,0)else if a.2.1≠b.2.1 then(6,0,2*max a.2.1 b.2.1)else if a.2.2+b.2.2=1\/a.2.2+b.2.2=5 then(5,a.1+a.2.1+1,a.1+a.2.1+1)else(7,a.1-a.2.1,a.2.1-a.1)
def YO:AM
 | [.agg [.int .i64 a,.int .i64 b,.int .u8 c],.agg [.int .i64 d,.int .i64 e,.int .u8 f]]=>some (((-30000<=a/\a<=30000)/\(-30000<=b/\b<=30000)/\0<=c/\c<=3)/\(-30000<=d/\d<=30000)/\(-30000<=e/\e<=30000)/\0<=f/\f<=3,.agg [.int .u8 (EU (a,b,c) (d,e,f)).1,.int .i64 (EU (a,b,c) (d,e,f)).2.1,.int .i64 (EU (a,b,c) (d,e,f)).2.2])
 |_=>none
def FM25:Fam:=⟨Int×Int×Int×Int×Int×Int,λ(a,b,c,d,e,f)=>[.agg [.int .i64 a,.int .i64 b,.int .u8 c],.agg [.int .i64 d,.int .i64 e,.int .u8 f]],λ(a,b,c,d,e,f)=>((-30000<=a/\a<=30000)/\(-30000<=b/\b<=30000)/\0<=c/\c<=3)/\(-30000<=d/\d<=30000)/\(-30000<=e/\e<=30000)/\0<=f/\f<=3,λ(a,b,c,d,e,f)=>.agg [.int .u8 (EU (a,b,c) (d,e,f)).1,.int .i64 (EU (a,b,c) (d,e,f)).2.1,.int .i64 (EU (a,b,c) (d,e,f)).2.2]⟩
theorem pM25:PS 42 YO:=by
 refine con [(81,kL25)] (by simpa using pL25) FM25 (λ_ _=>none) YO ?_ ?_ Tryz.func42 Dw Dw Dw ?_
 .intro args pre s h g;unfold YO at h;split at h
  .rename_i a b c d e f;cases h;exact⟨(a,b,c,d,e,f),by simp[FM25,BM,SV.le2,SV.le1,BH,SV.le0],g,rfl⟩
  .cases h
 .exact Bz
 .rintro⟨a,b,c,d,e,f⟩ g;replace g:((-30000<=a/\a<=30000)/\(-30000<=b/\b<=30000)/\0<=c/\c<=3)/\(-30000<=d/\d<=30000)/\(-30000<=e/\e<=30000)/\0<=f/\f<=3:=g;refine X0 _ ?_;(repeat' first|constructor|intro h)<;>refine Lm ?_
  all_goals(try simp only[Ig,Ib,Ii]at*)
  all_goals(first
   |trivial
   |exact A7
   |exact An
   |(simp[EU, *];done)
   |(simp only[EU];repeat (first|rw[Iz Dv]|rw[J3 Dv]))
   |skip)
def OR:Nat->Int->Int->Int×Int
 |0,a,b=>(a,b)
 |i+1,a,b=>(-(OR i a b).2,(OR i a b).1)
def PL(t X:Int):Int:=if 4<=t then -X else X
theorem d3w{a b K:Int}(c: -K<=a/\a<=K)(d: -K<=b/\b<=K):∀i,(-K<=(OR i a b).1/\(OR i a b).1<=K)/\ -K<=(OR i a b).2/\(OR i a b).2<=K
 |0=>⟨c,d⟩
 |i+1=>by have:=d3w c d i;simp only[OR];omega
theorem f64{t X Y:Int}(h:0<=t/\t<=7):OR (t%4).toNat (PL t X) Y=AR t X Y:=by have a:t=0\/t=1\/t=2\/t=3\/t=4\/t=5\/t=6\/t=7:=Dv;rcases a with rfl|rfl|rfl|rfl|rfl|rfl|rfl|rfl<;>simp[OR,PL,AR]
def IGo:Int×Int×Int×Int×Int->Nat->Option Inv
 |(t,x,y,X,Y),5=>some {β:=Nat,ok:=λi=>(i:Int)<=t%4,st:=λi=>⟨[⟨7,none,.int .i64 i⟩,⟨6,none,.int .i64 (OR i (PL t X) Y).2⟩,⟨5,none,.int .i64 (OR i (PL t X) Y).1⟩,⟨4,none,.own 2 0⟩,⟨2,none,.own 0 0⟩],[.cells 31 [.int .u8 t,.int .i64 x,.int .i64 y],.cells 82 [.int .i64 X,.int .i64 Y],.cells 82 [.int .i64 0,.int .i64 0]]⟩,μ:=λi=>(t%4).toNat-i}
 |_,_=>none
def YA:AM
 | [.agg [.int .u8 t,.int .i64 x,.int .i64 y],.agg [.int .i64 X,.int .i64 Y]]=>some ((0<=t/\t<=7)/\((-50000<=x/\x<=50000)/\ -50000<=y/\y<=50000)/\(-300000<=X/\X<=300000)/\ -300000<=Y/\Y<=300000,.agg [.int .i64 ((AR t X Y).1+6*x),.int .i64 ((AR t X Y).2+6*y)])
 |_=>none
def FGo25:Fam:=⟨Int×Int×Int×Int×Int,λ(t,x,y,X,Y)=>[.agg [.int .u8 t,.int .i64 x,.int .i64 y],.agg [.int .i64 X,.int .i64 Y]],λ(t,x,y,X,Y)=>(0<=t/\t<=7)/\((-50000<=x/\x<=50000)/\ -50000<=y/\y<=50000)/\(-300000<=X/\X<=300000)/\ -300000<=Y/\Y<=300000,λ(t,x,y,X,Y)=>.agg [.int .i64 ((AR t X Y).1+6*x),.int .i64 ((AR t X Y).2+6*y)]⟩
theorem pGo25:PS 49 YA:=by
 refine con [] Dx FGo25 IGo YA ?_ ?_ Tryz.func49 Dw Dw Dw ?_
 .intro args pre s h f;unfold YA at h;split at h
  .rename_i t x y X Y;cases h;exact⟨(t,x,y,X,Y),by simp[FGo25,BM,SV.le2,SV.le1,BH,SV.le0],f,rfl⟩
  .cases h
 .exact Bz
 .rintro⟨t,x,y,X,Y⟩ ⟨c,⟨hx,hy⟩,hX,g⟩;have j:t.tmod 4=t%4:=K3 c.1;have k: -300000<=PL t X/\PL t X<=300000:=by unfold PL;split<;>omega
  have l:=@d3w (PL t X) Y 300000 k g;all_goals refine X0 _ ?_;(repeat' first|constructor|intro h)<;>refine Lm ?_
  all_goals(try simp only[Ig]at*)
  all_goals(try first
   |exact A7
   |exact An)
  all_goals
   refine⟨(0:Nat),by show (0:Int)<=t%4;omega,?_,?_⟩
   .refine X0 _ ?_;(repeat' first|constructor|intro h)<;>refine Lm ?_
    all_goals first|exact A2|(show _=PL t X;unfold PL;first|rw[if_pos Dv]|rw[if_neg Dv])|skip
   .intro i d;replace d:(i:Int)<=t%4:=d;have m:=l i;have b:(i:Int)=t%4->OR i (PL t X) Y=AR t X Y:=λe=>by
     rw[<-f64 c];congr 1;omega
    refine X0 _ ?_;(repeat' first|constructor|intro h)<;>refine Lm ?_
    all_goals(try simp only[j,Ig]at*)
    all_goals(try first
     |decide
     |exact A7
     |exact An
     |(rw[b Dv];done)
     |(rw[b Dv]at m;rw[b Dv];simp only[AE];omega))
    all_goals(try
     refine⟨i+1,by show ((i+1:Nat):Int)<=t%4;omega,by show (t%4).toNat-(i+1)<(t%4).toNat-i;omega,?_⟩;all_goals refine X0 _ ?_;(repeat' first|constructor|intro h)<;>refine Lm ?_
     all_goals first|exact Ar|skip)
theorem in_le{X Q:Int}(_:0<=Q/\Q<=3):6*X+1<=HX X Q/\HX X Q<=6*X+5:=by unfold HX;repeat' split<;>omega
theorem f5s{X Q:Int}(_:0<=Q/\Q<=3):6*X+1<=Ho X Q/\Ho X Q<=6*X+5:=by unfold Ho;repeat' split<;>omega
theorem img_eq{t x y X Y Q:Int}(ht:0<=t/\t<=7)(a:0<=Q/\Q<=3):((AR t (HX X Q) (Ho Y Q)).1+6*x)/6=(sq t X Y).1+x/\((AR t (HX X Q) (Ho Y Q)).2+6*y)/6=(sq t X Y).2+y/\atQ ((AR t (HX X Q) (Ho Y Q)).1+6*x) ((AR t (HX X Q) (Ho Y Q)).2+6*y)=tq t Q:=by have b:t=0\/t=1\/t=2\/t=3\/t=4\/t=5\/t=6\/t=7:=Dv;have c:=ET a;rcases b with rfl|rfl|rfl|rfl|rfl|rfl|rfl|rfl<;>rcases c with rfl|rfl|rfl|rfl<;>simp only[AR,HX,Ho,sq,tq,tb,atQ]<;>refine⟨?_,?_,?_⟩<;>simp<;>(try omega)<;>((repeat' split)<;>omega)
def Ua:AM
 | [.agg [.int .u8 t,.int .i64 x,.int .i64 y],.agg [.int .i64 X,.int .i64 Y,.int .u8 Q]]=>some ((0<=t/\t<=7)/\((-50000<=x/\x<=50000)/\ -50000<=y/\y<=50000)/\(-30000<=X/\X<=30000)/\(-30000<=Y/\Y<=30000)/\0<=Q/\Q<=3,.agg [.int .i64 ((sq t X Y).1+x),.int .i64 ((sq t X Y).2+y),.int .u8 (tq t Q)])
 |_=>none
def FImg:Fam:=⟨Int×Int×Int×Int×Int×Int,λ(t,x,y,X,Y,Q)=>[.agg [.int .u8 t,.int .i64 x,.int .i64 y],.agg [.int .i64 X,.int .i64 Y,.int .u8 Q]],λ(t,x,y,X,Y,Q)=>(0<=t/\t<=7)/\((-50000<=x/\x<=50000)/\ -50000<=y/\y<=50000)/\(-30000<=X/\X<=30000)/\(-30000<=Y/\Y<=30000)/\0<=Q/\Q<=3,λ(t,x,y,X,Y,Q)=>.agg [.int .i64 ((sq t X Y).1+x),.int .i64 ((sq t X Y).2+y),.int .u8 (tq t Q)]⟩
theorem pImg:PS 18 Ua:=by
 refine con [(50,d5u),(49,YA),(48,f01)] (by simpa using⟨pIn25,pGo25,pAt25⟩) FImg (λ_ _=>none) Ua ?_ ?_ Tryz.func18 Dw Dw Dw ?_
 .intro args pre s h c;unfold Ua at h;split at h
  .rename_i t x y X Y Q;cases h;exact⟨(t,x,y,X,Y,Q),by simp[FImg,BM,SV.le2,SV.le1,BH,SV.le0],c,rfl⟩
  .cases h
 .exact Bz
 .rintro⟨t,x,y,X,Y,Q⟩ ⟨b,⟨hx,d⟩,e,f,a⟩;obtain⟨g,j,k⟩:=@img_eq t x y X Y Q b a;have b1:=@in_le X Q a;have b2:=@f5s Y Q a;have l:t=0\/t=1\/t=2\/t=3\/t=4\/t=5\/t=6\/t=7:=Dv;have m:(-250000<=(AR t (HX X Q) (Ho Y Q)).1/\(AR t (HX X Q) (Ho Y Q)).1<=250000)/\ -250000<=(AR t (HX X Q) (Ho Y Q)).2/\(AR t (HX X Q) (Ho Y Q)).2<=250000:=by
   rcases l with rfl|rfl|rfl|rfl|rfl|rfl|rfl|rfl<;>simp only[AR]<;>simp<;>omega
  refine X0 _ ?_;(repeat' first|constructor|intro h)<;>refine Lm ?_
  all_goals(first
   |exact g
   |exact j
   |exact k
   |exact⟨e,f,a⟩
   |exact⟨b,⟨hx,d⟩,⟨Dv,Dv⟩,Dv,Dv⟩
   |exact⟨⟨Dv,Dv⟩,Dv,Dv⟩
   |(obtain⟨⟨l1,l2⟩,l3,l4⟩:=m;exact⟨⟨Dv,Dv⟩,Dv,Dv⟩)
   |skip)
def r8:List Int:=[0,1,2,3,4,5,6,7]
def f7w(f s t:Int):Bool:=decide (AR t 6 0=AR s (AR f 6 0).1 (AR f 6 0).2)&&decide (AR t 0 6=AR s (AR f 0 6).1 (AR f 0 6).2)
theorem f1i:(r8.all λf=>r8.all λs=>r8.all λt=>f7w f s t==decide (t=tt f s))=true:=by decide +kernel
theorem Rr{t:Int}(h:0<=t/\t<=7):t∈r8:=by have a:t=0\/t=1\/t=2\/t=3\/t=4\/t=5\/t=6\/t=7:=Dv;rcases a with rfl|rfl|rfl|rfl|rfl|rfl|rfl|rfl<;>decide
theorem f6d{f s t:Int}(a:0<=f/\f<=7)(hs:0<=s/\s<=7)(b:0<=t/\t<=7):f7w f s t=decide (t=tt f s):=by have:=Ja.1 (Ja.1 (Ja.1 f1i f (Rr a)) s (Rr hs)) t (Rr b);simpa using this
theorem tt_le0:(r8.all λf=>r8.all λs=>decide (0<=tt f s)&&decide (tt f s<=7))=true:=by decide +kernel
theorem tt_le{f s:Int}(a:0<=f/\f<=7)(hs:0<=s/\s<=7):0<=tt f s/\tt f s<=7:=by have:=Ja.1 (Ja.1 tt_le0 f (Rr a)) s (Rr hs);simpa using this
theorem d1u{t a b c d:Int}(ht:0<=t/\t<=7):(AR t (a+c) (b+d)).1=(AR t a b).1+(AR t c d).1/\(AR t (a+c) (b+d)).2=(AR t a b).2+(AR t c d).2:=by have e:t=0\/t=1\/t=2\/t=3\/t=4\/t=5\/t=6\/t=7:=Dv;rcases e with rfl|rfl|rfl|rfl|rfl|rfl|rfl|rfl<;>simp[AR]<;>omega
theorem d7a{t a b:Int}(ht:0<=t/\t<=7):(AR t (6*a) (6*b)).1=6*(AR t a b).1/\(AR t (6*a) (6*b)).2=6*(AR t a b).2:=by have c:t=0\/t=1\/t=2\/t=3\/t=4\/t=5\/t=6\/t=7:=Dv;rcases c with rfl|rfl|rfl|rfl|rfl|rfl|rfl|rfl<;>simp[AR]<;>omega
theorem Tg{t a b K:Int}(ha: -K<=a/\a<=K)(hb: -K<=b/\b<=K):(-K<=(AR t a b).1/\(AR t a b).1<=K)/\ -K<=(AR t a b).2/\(AR t a b).2<=K:=by
 unfold AR;repeat' split
 all_goals(dsimp only;omega)
theorem lin_0{t:Int}(ht:0<=t/\t<=7):AR t 0 0=(0,0):=by have a:t=0\/t=1\/t=2\/t=3\/t=4\/t=5\/t=6\/t=7:=Dv;rcases a with rfl|rfl|rfl|rfl|rfl|rfl|rfl|rfl<;>rfl
theorem th_o{t x y u z w a b:Int}(_:0<=t/\t<=7)(c:0<=u/\u<=7):(AR u ((AR t a b).1+6*x) ((AR t a b).2+6*y)).1+6*z=(AR u (AR t a b).1 (AR t a b).2).1+6*((AR u x y).1+z)/\(AR u ((AR t a b).1+6*x) ((AR t a b).2+6*y)).2+6*w=(AR u (AR t a b).1 (AR t a b).2).2+6*((AR u x y).2+w):=by have d:=@d1u u (AR t a b).1 (AR t a b).2 (6*x) (6*y) c;have e:=@d7a u x y c;rw[d.1,d.2,e.1,e.2];omega
def thV(t x y u z w:Int):List SV:=[.int .u8 (tt t u),.int .i64 ((AR u x y).1+z),.int .i64 ((AR u x y).2+w)]
def thP(t x y u z w a b:Int):List SV:=[.int .i64 ((AR u ((AR t a b).1+6*x) ((AR t a b).2+6*y)).1+6*z),.int .i64 ((AR u ((AR t a b).1+6*x) ((AR t a b).2+6*y)).2+6*w)]
def ITh25:Int×Int×Int×Int×Int×Int->Nat->Option Inv
 |(t,x,y,u,z,w),5=>some {β:=Nat,ok:=λi=>(i:Int)<=tt t u,st:=λi=>⟨[⟨8,none,.int .u8 i⟩,⟨7,none,.own 5 0⟩,⟨6,none,.own 4 0⟩,⟨5,none,.own 3 0⟩,⟨4,none,.own 2 0⟩],[.cells 31 [.int .u8 t,.int .i64 x,.int .i64 y],.cells 31 [.int .u8 u,.int .i64 z,.int .i64 w],.cells 31 [.int .u8 0,.int .i64 0,.int .i64 0],.cells 82 (thP t x y u z w 0 0),.cells 82 (thP t x y u z w 6 0),.cells 82 (thP t x y u z w 0 6)]⟩,μ:=λi=>8-i}
 |_,_=>none
def Xt:AM
 | [.agg [.int .u8 t,.int .i64 x,.int .i64 y],.agg [.int .u8 u,.int .i64 z,.int .i64 w]]=>some (((0<=t/\t<=7)/\(-20000<=x/\x<=20000)/\ -20000<=y/\y<=20000)/\(0<=u/\u<=7)/\(-20000<=z/\z<=20000)/\ -20000<=w/\w<=20000,.agg (thV t x y u z w))
 |_=>none
def FTh25:Fam:=⟨Int×Int×Int×Int×Int×Int,λ(t,x,y,u,z,w)=>[.agg [.int .u8 t,.int .i64 x,.int .i64 y],.agg [.int .u8 u,.int .i64 z,.int .i64 w]],λ(t,x,y,u,z,w)=>((0<=t/\t<=7)/\(-20000<=x/\x<=20000)/\ -20000<=y/\y<=20000)/\(0<=u/\u<=7)/\(-20000<=z/\z<=20000)/\ -20000<=w/\w<=20000,λ(t,x,y,u,z,w)=>.agg (thV t x y u z w)⟩
theorem pTh25:PS 20 Xt:=by
 refine con [(49,YA),(51,Yf)] (by simpa using⟨pGo25,pDn⟩) FTh25 ITh25 Xt ?_ ?_ Tryz.func20 Dw Dw Dw ?_
 .intro args pre s h C;unfold Xt at h;split at h
  .rename_i t x y u z w;cases h;exact⟨(t,x,y,u,z,w),by simp[FTh25,BM,SV.le2,SV.le1,BH,SV.le0],C,rfl⟩
  .cases h
 .exact Bz
 .rintro⟨t,x,y,u,z,w⟩ ⟨⟨g,hx,E⟩,f,hz,hw⟩;have hX:=@Tg u x y 20000 hx E;have F:=tt_le g f;have k:=lin_0 g;have m:=lin_0 f;have n:=@Tg t 6 0 6 Dv Dv;have o:=@Tg t 0 6 6 Dv Dv;have b1:=@Tg u (AR t 6 0).1 (AR t 6 0).2 6 n.1 n.2;have b2:=@Tg u (AR t 0 6).1 (AR t 0 6).2 6 o.1 o.2;have l:=@d7a u x y f;have o1:=@th_o t x y u z w 6 0 g f;have o2:=@th_o t x y u z w 0 6 g f;have j:=@th_o t x y u z w 0 0 g f;simp only[k,m]at j;refine AB _ ?_;(repeat' first|constructor|refine Iu λf=> ?_|intro h)<;>refine Lm ?_
  all_goals(try first
   |exact⟨g,⟨Dv,Dv⟩,Dv,Dv⟩
   |exact⟨f,⟨Dv,Dv⟩,⟨Dv,Dv⟩,Dv,Dv⟩
   |(simp only[k];exact⟨f,⟨Dv,Dv⟩,⟨Dv,Dv⟩,Dv,Dv⟩))
  refine⟨(0:Nat),F.1,?_,?_⟩
  .refine AB _ ?_;(repeat' first|constructor|refine Iu λf=> ?_|intro h)<;>refine Lm ?_
   all_goals first|exact A2|skip
  .intro i q;replace q:(i:Int)<=tt t u:=q;have r:((AR i 6 0).1=(AR u (AR t 6 0).1 (AR t 6 0).2).1/\(AR i 6 0).2=(AR u (AR t 6 0).1 (AR t 6 0).2).2/\(AR i 0 6).1=(AR u (AR t 0 6).1 (AR t 0 6).2).1/\(AR i 0 6).2=(AR u (AR t 0 6).1 (AR t 0 6).2).2)↔(i:Int)=tt t u:=by
    have:=@f6d t u i g f Dv;unfold f7w at this;have v:=Mc (· =true) this;simp only[Ij,Prod.ext_iff,eq_iff_iff]at v;rw[<-v];exact⟨λ⟨a,b,c,d⟩=>⟨⟨a,b⟩,c,d⟩,λ⟨⟨a,b⟩,c,d⟩=>⟨a,b,c,d⟩⟩
   have k1:=@Tg (i:Int) 6 0 6 Dv Dv;have k2:=@Tg (i:Int) 0 6 6 Dv Dv;have A:(6*((AR u x y).1+z))/6=(AR u x y).1+z:=Dv;have B:(6*((AR u x y).2+w))/6=(AR u x y).2+w:=Dv;refine AB _ ?_;(repeat' first|constructor|refine Iu λf=> ?_|intro h)<;>refine Lm ?_
   all_goals(try simp only[Ig,If,Mm]at*)
   all_goals(try simp only[k,o1.1,o1.2,o2.1,o2.2,Int.zero_add,l.1,l.2,<-Int.mul_add,A,B]at h)
   all_goals(try simp only[k,o1.1,o1.2,o2.1,o2.2,Int.zero_add,l.1,l.2,<-Int.mul_add,A,B])
   all_goals(try first
    |exact⟨J5,Dv,Dv⟩
    |exact⟨⟨Dv,Dv⟩,⟨⟨Dv,Dv⟩,Dv,Dv⟩,⟨Dv,Dv⟩,Dv,Dv⟩
    |exact A7
    |(intro _;exact⟨⟨Dv,Dv⟩,⟨⟨Dv,Dv⟩,Dv,Dv⟩,⟨Dv,Dv⟩,Dv,Dv⟩)
    |exact By
    |exact r.1 ⟨Dv,Dv,Dv,Dv⟩
    |omega)
   have b9:(i:Int)≠tt t u:=λe=>by obtain⟨G,H,I,J⟩:=r.2 e;simp only[G,H,I,J]at h;simp at h
   refine⟨i+1,by show ((i+1:Nat):Int)<=tt t u;omega,by show 8-(i+1)<8-i;omega,?_⟩;all_goals refine AB _ ?_;(repeat' first|constructor|refine Iu λf=> ?_|intro h)<;>refine Lm ?_
   all_goals first|exact A2|exact j.1.symm|exact j.2.symm|exact o1.1.symm|exact o1.2.symm|exact o2.1.symm|exact o2.2.symm|(simp only[k];omega)|omega|skip
def Qd:AM
 | [.agg [.int .i64 W,.int .i64 _],.int .i64 i]=>some (1<=W/\W<=256/\0<=i/\i<=1024,.agg [.int .i64 (i/4%W),.int .i64 (i/4/W),.int .u8 (i%4)])
 |_=>none
def FCe25:Fam:=⟨Int×Int×Int,λ(W,H,i)=>[.agg [.int .i64 W,.int .i64 H],.int .i64 i],λ(W,_,i)=>1<=W/\W<=256/\0<=i/\i<=1024,λ(W,_,i)=>.agg [.int .i64 (i/4%W),.int .i64 (i/4/W),.int .u8 (i%4)]⟩
theorem TH:PS 43 Qd:=by
 refine con [] Dx FCe25 (λ_ _=>none) Qd ?_ ?_ Tryz.func43 Dw Dw Dw ?_
 .intro args pre s h b;unfold Qd at h;split at h
  .rename_i W H i;cases h;exact⟨(W,H,i),by simp[FCe25,BM,SV.le2,SV.le1,BH,SV.le0],b,rfl⟩
  .cases h
 .exact Bz
 .rintro⟨W,H,i⟩ ⟨h1,h2,a,h4⟩;have c:i.tdiv 4=i/4:=Lc a;have d:i.tmod 4=i%4:=K3 a;have e:(i/4).tdiv W=i/4/W:=Lc Dv;have f:(i/4).tmod W=i/4%W:=K3 Dv;have a5:i/4/W<=i/4:=Int.ediv_le_self _ Dv;have a6:0<=i/4/W:=Int.ediv_nonneg Dv Dv;have a7:0<=i/4%W:=Ln _ Dv;have a8:i/4%W<W:=Lg _ Dv;refine X0 _ ?_;(repeat' first|constructor|intro h)<;>refine Lm ?_
  all_goals(try simp only[c,d,e,f])
  all_goals(try simp only[AE])
  all_goals(first|omega|skip)
def kE(q k:Int):Int:=if k=0 then 0 else if(q=0\/q=2)↔k=1 then 1 else 2
theorem LF{q k:Int}:0<=kE q k/\kE q k<3:=by unfold kE;repeat' split<;>omega
def DD(X Y Q k:Int):Cl:=AQ ⟨X,Y,Q⟩ (kE Q k)
theorem g09{X Y Q k:Int}(a:0<=Q/\Q<=3):DD X Y Q k=if k=0 then(if Q=0 then⟨X,Y-1,2⟩else if Q=1 then⟨X+1,Y,3⟩else if Q=2 then⟨X,Y+1,0⟩else⟨X-1,Y,1⟩)else if k=1 then⟨X,Y,(Q+1)%4⟩else⟨X,Y,(Q+3)%4⟩:=by unfold DD kE AQ;rcases ET a with rfl|rfl|rfl|rfl<;>by_cases b:k=0<;>by_cases c:k=1<;>simp[b,c,EK,EL,EN,tb]<;>omega
def Up:AM
 | [.agg [.int .i64 X,.int .i64 Y,.int .u8 Q],.int .i64 k]=>some ((0<=Q/\Q<=3)/\(-30000<=X/\X<=30000)/\ -30000<=Y/\Y<=30000,.agg [.int .i64 (DD X Y Q k).x,.int .i64 (DD X Y Q k).y,.int .u8 (DD X Y Q k).q])
 |_=>none
def FBy25:Fam:=⟨Int×Int×Int×Int,λ(X,Y,Q,k)=>[.agg [.int .i64 X,.int .i64 Y,.int .u8 Q],.int .i64 k],λ(X,Y,Q,_)=>(0<=Q/\Q<=3)/\(-30000<=X/\X<=30000)/\ -30000<=Y/\Y<=30000,λ(X,Y,Q,k)=>.agg [.int .i64 (DD X Y Q k).x,.int .i64 (DD X Y Q k).y,.int .u8 (DD X Y Q k).q]⟩
theorem f92:PS 59 Up:=by
 refine con [] Dx FBy25 (λ_ _=>none) Up ?_ ?_ Tryz.func59 Dw Dw Dw ?_
 .intro args pre s h a;unfold Up at h;split at h
  .rename_i X Y Q k;cases h;exact⟨(X,Y,Q,k),by simp[FBy25,BM,SV.le2,SV.le1,BH,SV.le0],a,rfl⟩
  .cases h
 .exact Bz
 .rintro⟨X,Y,Q,k⟩ a;replace a:(0<=Q/\Q<=3)/\(-30000<=X/\X<=30000)/\ -30000<=Y/\Y<=30000:=a;have b:(Q+1).tmod 4=(Q+1)%4:=K3 Dv;have c:(Q+3).tmod 4=(Q+3)%4:=K3 Dv;have e:=@g09 X Y Q k a.1;refine X0 _ ?_;(repeat' first|constructor|intro h)<;>refine Lm ?_
  all_goals(try simp only[b,c])
  all_goals(try simp only[AE])
  all_goals(try omega)
  all_goals(try simp only[Ig]at*)
  all_goals(first|(rw[e];simp[*];done)|(rw[e];repeat (first|rw[Iz Dv]|rw[J3 Dv]))|skip)
def BK(W H i k:Int):Int:=if AX W H i (kE (i%4) k)=0 then AG W H i (kE (i%4) k)else -1
theorem f9z{W H i k:Int}(hs:AV W H=0)(c:0<=i)(h:i<4*W*H):BK W H i k=if(DD (i/4%W) (i/4/W) (i%4) k).x<0\/(DD (i/4%W) (i/4/W) (i%4) k).y<0\/W<=(DD (i/4%W) (i/4/W) (i%4) k).x\/H<=(DD (i/4%W) (i/4/W) (i%4) k).y then -1 else 4*((DD (i/4%W) (i/4/W) (i%4) k).y*W+(DD (i/4%W) (i/4/W) (i%4) k).x)+(DD (i/4%W) (i/4/W) (i%4) k).q:=by
 have a:=@WC W H i (kE (i%4) k) hs c h LF;rw[HV hs c h]at a;have e:AQ ⟨i/4%W,i/4/W,i%4⟩ (kE (i%4) k)=DD (i/4%W) (i/4/W) (i%4) k:=rfl;rw[e]at a;unfold BK;by_cases b:AX W H i (kE (i%4) k)=0
 .have:=a.1.1 b;rw[Iz b,a.2 b,J3 Dv]
 .have:¬_:=λq=>b (a.1.2 q);rw[J3 b,Iz Dv]
def SN:AM
 | [.agg [.int .i64 W,.int .i64 H],.int .i64 i,.int .i64 k]=>some (AV W H=0/\0<=i/\i<4*W*H,.int .i64 (BK W H i k))
 |_=>none
def FNb25:Fam:=⟨Int×Int×Int×Int,λ(W,H,i,k)=>[.agg [.int .i64 W,.int .i64 H],.int .i64 i,.int .i64 k],λ(W,H,i,_)=>AV W H=0/\0<=i/\i<4*W*H,λ(W,H,i,k)=>.int .i64 (BK W H i k)⟩
theorem Yh:PS 41 SN:=by
 refine con [(43,Qd),(59,Up)] (by simpa using⟨TH,f92⟩) FNb25 (λ_ _=>none) SN ?_ ?_ Tryz.func41 Dw Dw Dw ?_
 .intro args pre s h g;unfold SN at h;split at h
  .rename_i W H i k;cases h;exact⟨(W,H,i,k),by simp[FNb25,BM,SV.le2,SV.le1,BH,SV.le0],g,rfl⟩
  .cases h
 .exact C1
 .rintro⟨W,H,i,k⟩ ⟨hs,a,b⟩;have hw:=GW hs;have hN:4*W*H=4*(W*H):=Li 4 W H;have c:=IA hs a b;rw[HV hs a b]at c;dsimp only at c;have d:=@MM ⟨i/4%W,i/4/W,i%4⟩ (kE (i%4) k) c.2.2.1 LF;have e:AQ ⟨i/4%W,i/4/W,i%4⟩ (kE (i%4) k)=DD (i/4%W) (i/4/W) (i%4) k:=rfl;rw[e]at d;dsimp only at d;have f:=@f9z W H i k hs a b;have j:0<=(DD (i/4%W) (i/4/W) (i%4) k).y->0<=(DD (i/4%W) (i/4/W) (i%4) k).y*W/\(DD (i/4%W) (i/4/W) (i%4) k).y*W<=257*256:=λh=>⟨Int.mul_nonneg h Dv,Int.mul_le_mul Dv Dv Dv Dv⟩
  refine X0 _ ?_;(repeat' first|constructor|intro h)<;>refine Lm ?_
  all_goals(try simp only[Ig,Ii]at*)
  all_goals(first
   |exact Au
   |exact⟨Dv,⟨Dv,Dv⟩,Dv,Dv⟩
   |exact A7
   |(have q:=j Dv;simp only[AE];omega)
   |(rw[f,Iz Dv];done)
   |(rw[f,J3 Dv];done)
   |skip)
def d8g:AM
 | [.agg [.int .i64 W,.int .i64 H],.int .i64 i,.int .i64 k]=>some (AV W H=0/\0<=i/\i<4*W*H,.int .i64 (kE (i%4) k))
 |_=>none
def FEd25:Fam:=⟨Int×Int×Int×Int,λ(W,H,i,k)=>[.agg [.int .i64 W,.int .i64 H],.int .i64 i,.int .i64 k],λ(W,H,i,_)=>AV W H=0/\0<=i/\i<4*W*H,λ(_,_,i,k)=>.int .i64 (kE (i%4) k)⟩
theorem pEd25:PS 80 d8g:=by
 refine con [(43,Qd)] (by simpa using TH) FEd25 (λ_ _=>none) d8g ?_ ?_ Tryz.func80 Dw Dw Dw ?_
 .intro args pre s h c;unfold d8g at h;split at h
  .rename_i W H i k;cases h;exact⟨(W,H,i,k),by simp[FEd25,BM,SV.le2,SV.le1,BH,SV.le0],c,rfl⟩
  .cases h
 .exact C1
 .rintro⟨W,H,i,k⟩ ⟨hs,h0,h1⟩;have hw:=GW hs;have hN:4*W*H=4*(W*H):=Li 4 W H;refine X0 _ ?_;(repeat' first|constructor|intro h)<;>refine Lm ?_
  all_goals(try simp only[Ig]at*)
  all_goals(first
   |exact Au
   |(unfold kE;simp_all;done)
   |(have a:(i%4=0\/i%4=2)↔k=1:=by
      rename_i b;have:=(Lr (α:=Bool)).1 b;rw[<-Jb (p:=k=1),<-this];simp
     unfold kE;rw[J3 Dz,Iz a])
   |(have a:¬((i%4=0\/i%4=2)↔k=1):=λa=>by
      rename_i b;have e:decide (k=1)=(decide (i%4=0)||decide (i%4=2)):=by rw[<-Bool.decide_or];exact decide_eq_decide.2 a.symm
      rw[e]at b;simp at b
     unfold kE;rw[J3 Dz,J3 a])
   |skip)
end Go.Proofs.YtaihldljnlgnoaaGreatDoor.V
