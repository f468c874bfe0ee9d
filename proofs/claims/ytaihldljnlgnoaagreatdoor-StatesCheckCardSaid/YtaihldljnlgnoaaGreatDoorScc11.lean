/-
  Parts of the proof: D17 D18 D19 D22 D21 D28. Conditions: none.
-/
import Derived.Test.YtaihldljnlgnoaaGreatDoorScc8
import Derived.Test.YtaihldljnlgnoaaGreatDoorScc9
import Derived.Test.YtaihldljnlgnoaaGreatDoorScc10
set_option maxRecDepth 100000
set_option maxHeartbeats 40000000
namespace Go.Proofs.YtaihldljnlgnoaaGreatDoor.V
open Go
def KC(y x:Int×Int):Bool:=decide (y.1<x.1)||(decide (y.1=x.1)&&decide (y.2<x.2))
def KE(x:Int×Int):List (Int×Int)->List (Int×Int)
 | []=>[x]
 |y::r=>if KC y x=true then y::KE x r else if y=x then y::r else x::y::r
def KN(q:Pas):Int×Int:=(q.K,q.C)
def FA(ps:List Pas):List (Int×Int):=ps.foldl (λl q=>KE (KN q) l) []
theorem b52{y x:Int×Int}:KC y x=true↔y.1<x.1\/y.1=x.1/\y.2<x.2:=by unfold KC;rw[K1,Jt,Jb,Jb,Jb]
theorem c9z{x y z:Int×Int}(h1:KC x y=true)(h2:KC y z=true):KC x z=true:=by rw[b52]at*;omega
theorem f28{x y:Int×Int}(h1:¬KC y x=true)(a:y≠x):KC x y=true:=by rw[b52]at*;have:¬(y.1=x.1/\y.2=x.2):=λh=>a (Prod.ext h.1 h.2);omega
theorem c8u{x:Int×Int}:∀(l:List (Int×Int)) (k:Nat),k<=l.length->(∀j,j<k->KC (l.getD j HW.d) x=true)->(k<l.length->¬KC (l.getD k HW.d) x=true)->
 KE x l=if k<l.length/\l.getD k HW.d=x then l else l.take k++([x]++l.drop k)
 | [],k,h,_,_=>by obtain rfl:k=0:=E2;rfl
 |y::l,0,_,_,h=>by
  have a:¬KC y x=true:=h Dx;rw[KE,J3 a];show (if y=x then y::l else x::y::l)=if 0<(y::l).length/\y=x then y::l else []++([x]++y::l);by_cases e:y=x
  .rw[Iz e,Iz ⟨Dx,e⟩]
  .rw[J3 e,J3 (λq=>e q.2)];rfl
 |y::l,k+1,h,b,c=>by
  have a:KC y x=true:=b 0 Dv;have f:=@c8u x l k E2 (λj q=>b (j+1) Dv) (λq=>c (by simpa using q));rw[KE,Iz a,f];show (y::if k<l.length/\l.getD k HW.d=x then l else l.take k++([x]++l.drop k))=if k+1<(y::l).length/\l.getD k HW.d=x then y::l else y::l.take k++([x]++l.drop k);by_cases e:k<l.length/\l.getD k HW.d=x
  .rw[Iz e,Iz ⟨by simpa using e.1,e.2⟩]
  .rw[J3 e,J3 (λq=>e ⟨by simpa using q.1,q.2⟩)];rfl
theorem b5t{x y:Int×Int}:∀(l:List (Int×Int)),y∈KE x l↔y∈l\/y=x
 | []=>by simp[KE]
 |z::l=>by
  rw[KE];split
  .rw[Jd,b5t l,Jd,or_assoc]
  .split
   .rename_i h;subst h;simp only[Jd];constructor
    .exact λh=>.inl h
    .rintro(h|h)
     .exact h
     .exact .inl h
   .simp only[Jd];constructor
    .rintro(h|h)
     .exact .inr h
     .exact .inl h
    .rintro(h|h)
     .exact .inr h
     .exact .inl h
theorem c37{x:Int×Int}:∀(l:List (Int×Int)),(KE x l).length<=l.length+1
 | []=>by simp[KE]
 |z::l=>by
  have:=@c37 x l;rw[KE];split
  .simp only[Kh];omega
  .split<;>simp
theorem c28{x:Int×Int}:∀(l:List (Int×Int)),l.Pairwise (λa b=>KC a b=true)->(KE x l).Pairwise λa b=>KC a b=true
 | [],_=>by simp[KE]
 |z::l,h=>by
  rw[Ki]at h;rw[KE];split
  .rename_i d;rw[Ki];refine⟨λa c=> ?_,c28 l h.2⟩;rcases(b5t l).1 c with c|rfl
   .exact h.1 a c
   .exact d
  .rename_i d;split
   .rw[Ki];exact h
   .rename_i e;have hx:=f28 d e;rw[Ki,Ki];refine⟨λa c=> ?_,h⟩;rcases Jd.1 c with rfl|c
    .exact hx
    .exact c9z hx (h.1 a c)
theorem f11{ps:List Pas}{i:Nat}{d:Pas}(h:i<ps.length):FA (ps.take (i+1))=KE (KN (ps.getD i d)) (FA (ps.take i)):=by unfold FA;rw[M0,Iy h,List.foldl_append,Ix,Iy h];rfl
theorem f46(ps:List Pas):∀(l:List (Int×Int)),l.Pairwise (λa b=>KC a b=true)->(ps.foldl (λl q=>KE (KN q) l) l).Pairwise (λa b=>KC a b=true)/\(∀y,y∈ps.foldl (λl q=>KE (KN q) l) l↔y∈l\/∃q∈ps,KN q=y)/\(ps.foldl (λl q=>KE (KN q) l) l).length<=l.length+ps.length:=by
 induction ps with
 |nil=>intro l h;exact⟨h,λy=>Dx,Dx⟩
 |cons q ps c=>
  intro l h;obtain⟨d,e,h3⟩:=c (KE (KN q) l) (c28 l h);refine⟨d,λy=> ?_,?_⟩
  .rw[M1,e,b5t];simp only[Jd,exists_eq_or_imp];rw[or_assoc];constructor
   .rintro(h|h|h)
    .exact .inl h
    .exact .inr (.inl h.symm)
    .exact .inr (.inr h)
   .rintro(h|h|h)
    .exact .inl h
    .exact .inr (.inl h.symm)
    .exact .inr (.inr h)
  .have:=@c37 (KN q) l;rw[M1,Kh];omega
theorem f6f{ps:List Pas}{y:Int×Int}:y∈FA ps↔∃q∈ps,KN q=y:=by have:=(f46 ps [] .nil).2.1 y;simp only[Na,false_or]at this;exact this
theorem g0x(ps:List Pas):(FA ps).length<=ps.length:=by have:=(f46 ps [] .nil).2.2;simp only[Mi,Kv]at this;exact this
theorem lin_on{p:Pt}{P:Int->Mv}{y:Int×Int}(g:BE p=0)(G:PlcG p P):y∈FA (HB p P (3*AJ p.W p.H))↔Yg p P y.1 y.2:=by
 have hs:=(FO g).1;rw[f6f];constructor
 .rintro⟨q,k,rfl⟩;obtain⟨a,e,c,d,i,rfl⟩:=(b6k g G).1 k;exact⟨a,e,c,d,rfl⟩
 .rintro⟨a,e,c,d,i⟩;have f:∀b,BX p b e->AW p b e=0->b<AP p b e->KF p P y.1 y.2 b e->∃q∈HB p P (3*AJ p.W p.H),KN q=y:=λb l m n o=>by
   refine⟨_,(b6k g G).2 ⟨b,e,l,m,n,rfl⟩,?_⟩;have j:GY (DN (AO p P b)) (DN (BA p P b e))=(y.1,y.2):=o;unfold KN;simp only;rw[j]
  by_cases r:a<AP p a e
  .exact f a c d r i
  .obtain⟨s,n2⟩:=IP hs c;have nq:AP p a e≠a:=λq=>by
    have:=(JU hs c.1 c.2.1 c.2.2).2.1;have t:AG p.W p.H a e=a:=q;rw[t]at this;exact UA (ML hs c.1) c.2.1 this.symm
   exact f _ s (by rw[LX hs g c];exact d) Gk ((d48 hs G c d).2 i)
section
variable{L:List Stk}{K C sd:Int}{i:Nat}
theorem f6h(h:i<L.length)(hs:DM K C (L.getD i AA.d).c≠sd):ED K C sd (L.take (i+1))=ED K C sd (L.take i)++[L.getD i AA.d]/\DQ K C sd (L.take (i+1))=DQ K C sd (L.take i):=by rw[JD (d:=AA.d) h];unfold ED DQ;rw[N0,N0];generalize L.getD i AA.d=x at*;simp[hs]
theorem g03(h:i<L.length)(hs:DM K C (L.getD i AA.d).c=sd):ED K C sd (L.take (i+1))=ED K C sd (L.take i)/\DQ K C sd (L.take (i+1))=DQ K C sd (L.take i)++[⟨BU (BP K C) (L.getD i AA.d).c,(L.getD i AA.d).l.reverse⟩]:=by rw[JD (d:=AA.d) h];unfold ED DQ;rw[N0,N0];generalize L.getD i AA.d=x at*;simp[hs]
theorem d9f:(ED K C sd (L.take i)).length<=L.length:=by unfold ED;refine Kq (N3 _ _) ?_;rw[Nb];omega
theorem d8u:(DQ K C sd (L.take i)).length<=L.length:=by unfold DQ;rw[Jv];refine Kq (N3 _ _) ?_;rw[Nb];omega
def JT(K C sd:Int)(L:List Stk):Bool:=L.any λs=>decide (DM K C s.c=sd)&&s.l.contains 0
def XP(z:Bool)(r m:Mv):Mv:=⟨if z=true then(EC r m).t else r.t,if z=true then(EC r m).x else r.x,if z=true then(EC r m).y else r.y⟩
theorem rt_eq(z:Bool)(r m:Mv):XP z r m=if z=true then EC r m else r:=by cases z<;>rfl
theorem z_stay(h:i<L.length)(hs:DM K C (L.getD i AA.d).c≠sd):JT K C sd (L.take (i+1))=JT K C sd (L.take i):=by rw[JD (d:=AA.d) h];unfold JT;rw[N2];generalize L.getD i AA.d=x at*;simp[hs]
theorem z_away(h:i<L.length)(hs:DM K C (L.getD i AA.d).c=sd):JT K C sd (L.take (i+1))=(JT K C sd (L.take i)||((L.getD i AA.d).l.reverse.take (L.getD i AA.d).l.length).contains 0):=by rw[JD (d:=AA.d) h];unfold JT;rw[N2];generalize L.getD i AA.d=x at*;have e:x.l.reverse.take x.l.length=x.l.reverse:=L6 Dx;rw[e];simp[hs]
theorem f7d{l:List Int}{j:Nat}(h:j<l.length):l.reverse.getD j 0=l.getD (l.length-1-j) 0:=by rw[Ix,Ix,List.getElem?_reverse h]
theorem f0r{l:List Int}{j:Nat}(h:j<l.length):(l.take (j+1)).contains 0=((l.take j).contains 0||decide (l.getD j 0=0)):=by rw[JD (d:=0) h,List.contains_append];congr 1;rw[List.contains_cons,List.contains_nil,Mb];rw[L7,Lr,Jb];exact eq_comm
end
theorem c9v(_:Bool)(S:List Stk)(x:Stk):(∃k,k<S.length/\(∀j,j<k->(S.getD j AA.d).c≠x.c)/\(S.getD k AA.d).c=x.c)\/∀j,j<S.length->(S.getD j AA.d).c≠x.c:=by
 induction S with
 |nil=>exact .inr λj hj=>absurd hj (Jq _)
 |cons s S a=>
  by_cases h:s.c=x.c
  .exact .inl ⟨0,Dx,λj hj=>absurd hj (Jq _),h⟩
  .rcases a with⟨k,h1,b,e⟩|h1
   .refine .inl ⟨k+1,Es,λj hj=> ?_,e⟩;cases j with
    |zero=>exact h
    |succ j=>exact b j Dv
   .refine .inr λj hj=> ?_;cases j with
    |zero=>exact h
    |succ j=>exact h1 j Em
theorem b51{over:Bool}{S A:List Stk}{i:Nat}(h:i<A.length):Al over S (A.take (i+1))=EQ over (Al over S (A.take i)) (A.getD i AA.d):=by unfold Al;rw[JD (d:=AA.d) h,List.foldl_append];rfl
theorem c3c{over:Bool}{x:Stk}:∀(S:List Stk) (j:Nat),j<S.length->((EQ over S x).getD j AA.d).c=(S.getD j AA.d).c/\((S.getD j AA.d).c≠x.c->(EQ over S x).getD j AA.d=S.getD j AA.d)
 | [],j,h=>E6
 |s::S,j,h=>by
  rw[EQ];split
  .rename_i e;cases j with
   |zero=>exact⟨rfl,λq=>absurd e q⟩
   |succ j=>exact⟨rfl,λ_=>rfl⟩
  .cases j with
   |zero=>exact⟨rfl,λ_=>rfl⟩
   |succ j=>exact c3c S j E2
theorem b4z{over:Bool}{x:Stk}:∀(S:List Stk),S.length<=(EQ over S x).length/\(EQ over S x).length<=S.length+1
 | []=>by simp[EQ]
 |s::S=>by
  have:=@b4z over x S;rw[EQ];split
  .simp
  .simp only[Kh];omega
theorem VG{over:Bool}:∀(A S:List Stk),S.length<=(Al over S A).length/\(Al over S A).length<=S.length+A.length
 | [],S=>by show S.length<=S.length/\S.length<=S.length+0;omega
 |x::A,S=>by have h1:=@VG over A (EQ over S x);have h2:=@b4z over x S;have e:Al over S (x::A)=Al over (EQ over S x) A:=rfl;rw[e,Kh];omega
theorem Xc{over:Bool}:∀(A S:List Stk) (j:Nat),j<S.length->((Al over S A).getD j AA.d).c=(S.getD j AA.d).c/\((S.getD j AA.d).c∉A.map (·.c)->(Al over S A).getD j AA.d=S.getD j AA.d)
 | [],S,j,h=>⟨rfl,λ_=>rfl⟩
 |x::A,S,j,h=>by have e:Al over S (x::A)=Al over (EQ over S x) A:=rfl;have h1:=(@b4z over x S).1;obtain⟨g1,a⟩:=@c3c over x S j h;obtain⟨f1,f2⟩:=@Xc over A (EQ over S x) j Dv;rw[e];refine⟨f1.trans g1,λq=> ?_⟩;rw[Km,Jd,not_or]at q;rw[f2 (by rw[g1];exact q.2),a q.1]
theorem c7k{over:Bool}:∀(A S:List Stk) (j:Nat),S.length<=j->j<(Al over S A).length->((Al over S A).getD j AA.d).c∈A.map (·.c)
 | [],S,j,g,a=>by have e:Al over S []=S:=rfl;rw[e]at a;omega
 |x::A,S,j,g,a=>by
  have e:Al over S (x::A)=Al over (EQ over S x) A:=rfl;rw[e]at a⊢;by_cases f:j<(EQ over S x).length
  .have hl:=(@b4z over x S).2;have b:j=S.length:=Dv;subst b;rw[(@Xc over A (EQ over S x) S.length f).1];rcases c9v over S x with⟨k,k1,k2,k3⟩|i
   .rw[b4c S k k1 k2 k3,Kj]at f;omega
   .rw[b16 S i];simp[]
  .exact Jz _ (c7k A _ j Dv a)
theorem d3a:∀(n:Nat) (l:List Int),l.Nodup->(∀x∈l,0<=x/\x<(n:Int))->l.length<=n
 |0,l,_,h=>by
  cases l with
  |nil=>simp
  |cons x l=>have:=h x Dx;omega
 |n+1,l,a,h=>by
  have b:=d3a n (l.erase (n:Int)) (a.sublist List.erase_sublist) (λx hx=>by
   have h1:=h x (List.mem_of_mem_erase hx);have h2:x≠(n:Int):=λe=>by subst e;exact a.not_mem_erase hx
   omega)
  rw[List.length_erase]at b;split at b<;>omega
namespace StG
variable{p:Pt}{r:Mv}{L:List Stk}{P:Int->Mv}{B:Int}
theorem flat_len(X:StG p r L P B):(BG L).length<=AJ p.W p.H:=by have hN:=CR X.hs;refine d3a _ _ X.flat_nd λx hx=> ?_;have h:=(X.flat_mem x).1 hx;unfold AU at h;omega
theorem lay_len(X:StG p r L P B){s:Stk}(hs:s∈L):s.l.length<=AJ p.W p.H:=by have hN:=CR X.hs;have a:=X.S.nd s.c;rw[X.at_ hs]at a;refine d3a _ _ a λx hx=> ?_;have h:=(X.inSt hs hx).1;unfold AU at h;omega
theorem len(X:StG p r L P B):L.length<=AJ p.W p.H:=by
 refine Nat.le_trans ?_ X.flat_len;have:∀M:List Stk,(∀s∈M,s.l≠[])->M.length<=(BG M).length:=by
  intro M;induction M with
  |nil=>intro _;simp
  |cons s M a=>
   intro h;have h1:=a λt b=>h t (List.mem_cons_of_mem _ b);have h2:0<s.l.length:=List.length_pos_iff.2 (h s (by simp));have e:BG (s::M)=s.l++BG M:=rfl;rw[e,List.length_append,List.length_cons];omega
 exact this L X.ne
theorem stIn(X:StG p r L P B):FK L:=by
 have hN:=CR X.hs;have hw:=GW X.hs;have h1:=X.len;have h2:=X.flat_len;refine⟨⟨by omega,λs hs=> ?_⟩,λs hs=> ?_,by omega⟩
 .have:=X.lay_len hs;omega
 .have:=X.cQ hs;unfold CO at this;exact⟨this.1,by show s.c.q<=255;omega⟩
theorem cg(X:StG p r L P B){Q:Int->Mv}(h:∀i,AU p i->Q i=P i):StG p r L Q B:=by
 have hs:=X.hs;have hN:=CR hs;refine⟨X.hp,⟨λi a=>by rw[h i a];exact X.G.ok i a,λi e a f g=> ?_⟩,?_,λi a=>by rw[UQ h a];exact X.bd i a,X.lt,X.ne,⟨X.S.nd,λc v=> ?_⟩,nc_cg h X.N,kd_cg hs h X.D⟩
 .rw[h i a,h _ (JU hs a f g).1];exact X.G.cr i e a f g
 .rw[h 0 ⟨Int.le_refl _,by omega⟩];exact X.r0
 .rw[X.S.mem c v];constructor
  .rintro⟨b,d⟩;exact⟨b,by rw[UQ h b];exact d⟩
  .rintro⟨b,d⟩;exact⟨b,by rw[<-UQ h b];exact d⟩
theorem pl(X:StG p r L P B)(a:B<=4000):StG p r L (AD p r) B:=X.cg λi b=>(X.places a).2 i b
theorem mono{a:Int}(X:StG p r L P B)(hB:B<=a):StG p r L P a:=
 ⟨X.hp,X.G,X.r0,λi b=>by have:=X.bd i b;omega,X.lt,X.ne,X.S,X.N,X.D⟩
end StG
abbrev JF:=Pt×Mv×List Stk
def OU(s:JF):List (Int×Int):=FA (HB s.1 (AD s.1 s.2.1) (3*AJ s.1.W s.1.H))
def Ui(s:JF)(K C sd:Int)(over:Bool):JF:=(FV s.1 (AD s.1 s.2.1) K C over,FH s.1 (AD s.1 s.2.1) K C sd 0,KU over K C sd s.2.2)
def YY(s:JF)(a:Int):Int×Int:=(OU s).getD (a%((OU s).length:Int)).toNat HW.d
def MR(s:JF)(f:Int×Int×Int):JF:=if OU s=[]then s else Ui s (YY s f.1).1 (YY s f.1).2 (f.2.1%2) (decide (f.2.2%2=1))
def sxSt(w h:Int):JF:=(⟨1+w%4,1+h%4,[]⟩,DA,CI (1+w%4) (1+h%4))
def LH(w h:Int)(l:List (Int×Int×Int)):JF:=(l.take 5).foldl MR (sxSt w h)
def QB:Nat->Int
 |0=>3
 |i+1=>3*QB i+2
theorem c9a{i:Nat}(h:i<=5):3<=QB i/\QB i<=971:=by
 match i,h with
 |0,_=>decide
 |1,_=>decide
 |2,_=>decide
 |3,_=>decide
 |4,_=>decide
 |5,_=>decide
structure SOK (s:JF) (i:Nat):Prop where
 g:StG s.1 s.2.1 s.2.2 (AD s.1 s.2.1) (QB i)
 small:s.1.W<=4/\s.1.H<=4
 few:s.1.l.length<=192*i
 u8:∀c∈s.1.l,AE .u8 c.e
theorem SOK.prOK{s:JF}{i:Nat}(X:SOK s i)(hi:i<=5):prOK s.1 s.2.1:=by have hN:=CR X.g.hs;have a:=(X.g.G.ok 0 ⟨Int.le_refl _,by omega⟩).1;rw[X.g.r0]at a;have:=X.few;unfold FR at a;exact⟨⟨by omega,X.u8⟩,by omega,by omega⟩
theorem SOK.n{s:JF}{i:Nat}(X:SOK s i):AJ s.1.W s.1.H<=64:=by have a:=CR X.g.hs;have hw:=GW X.g.hs;obtain⟨b,c⟩:=X.small;have:s.1.W*s.1.H<=4*4:=Int.mul_le_mul b c (by omega) (by omega);rw[Int.mul_assoc]at a;omega
theorem SOK.chk{s:JF}{i:Nat}(X:SOK s i)(hi:i<=5):FS s.1 s.2.1 s.2.2=0:=X.g.valid (by have:=c9a hi;omega)
theorem SOK.mono{s:JF}{i j:Nat}(X:SOK s i)(h:i<=j)(a:j<=5):SOK s j:=by
 refine⟨X.g.mono ?_,X.small,by have:=X.few;omega,X.u8⟩;have:∀j,i<=j->j<=5->QB i<=QB j:=by
  intro j;induction j with
  |zero=>intro h _;have:i=0:=by omega
         subst this;exact Int.le_refl _
  |succ j b=>
   intro h1 h2;by_cases e:i=j+1
   .subst e;exact Int.le_refl _
   .have h3:=b (by omega) (by omega);have h4:=c9a (i:=j) (by omega);show QB i<=3*QB j+2;omega
 exact this j h a
theorem c7j(l:List Cr):(NP l).length=l.length:=(b6s l).length_eq
theorem SOK.fold{s:JF}{i:Nat}(X:SOK s i)(hi:i+1<=5){K C sd:Int}(b:Yg s.1 (AD s.1 s.2.1) K C)(a:sd=0\/sd=1)(over:Bool):SOK (Ui s K C sd over) (i+1):=by
 obtain⟨hK,Y⟩:=X.g.fold X.u8 b a over;have hB:=c9a (i:=i+1) hi;have c:StG (Ui s K C sd over).1 (Ui s K C sd over).2.1 (Ui s K C sd over).2.2 (FH s.1 (AD s.1 s.2.1) K C sd) (QB (i+1)):=Y;refine⟨c.pl (by omega),X.small,?_,?_⟩
 .show (NP (s.1.l++MO s.1 (AD s.1 s.2.1) K C over)).length<=_;rw[c7j,List.length_append];have h1:=X.few;have h2:=X.n;have h3:(MO s.1 (AD s.1 s.2.1) K C over).length<=3*AJ s.1.W s.1.H:=by
   unfold MO;rw[List.length_map];refine Nat.le_trans (List.length_filter_le _ _) ?_;unfold HB;refine Nat.le_trans (List.length_filterMap_le _ _) ?_;simp
  omega
 .exact(d7i (K:=K) (C:=C) (over:=over) X.g.hp X.u8 X.g.G).2
theorem ci_bd{c:Cl}{e B:Int}(a:CO c)(b:0<=e/\e<3)(d:(-B<=c.x/\c.x<=B)/\ -B<=c.y/\c.y<=B): -(2*B+1)<=DF c.x c.y c.q e/\DF c.x c.y c.q e<=2*B+1:=by obtain⟨X,Y,Q⟩:=c;rcases ET a with h|h|h|h<;>rcases GI b with rfl|rfl|rfl<;>(simp only at h d;subst h;simp[DF,IJ,JY,tb];omega)
theorem on_bd{p:Pt}{r:Mv}{L:List Stk}{P:Int->Mv}{B K C:Int}(X:StG p r L P B)(f:Yg p P K C):(1<=K/\K<=4)/\ -(2*B+1)<=C/\C<=2*B+1:=by have hs:=X.hs;obtain⟨a,e,b,ka,g⟩:=f;have c:=LL hs X.G b.1;have d:=NY (t:=(P a).t) b.2.1;obtain⟨h,i⟩:=(c2d hs X.G b.1 b.2.1).1 g;rw[<-h,<-i];exact⟨ci_K c d,ci_bd c d (X.bd a b.1)⟩
theorem f41{s:JF}{i:Nat}(X:SOK s i){y:Int×Int}:y∈OU s↔Yg s.1 (AD s.1 s.2.1) y.1 y.2:=lin_on X.g.hp X.g.G
theorem d1t{s:JF}{a:Int}(h:OU s≠[]):YY s a∈OU s:=by have hl:0<(OU s).length:=List.length_pos_iff.2 h;refine BW ?_;have h1:=Int.emod_nonneg a (b:=((OU s).length:Int)) (by omega);have h2:=Int.emod_lt_of_pos a (b:=((OU s).length:Int)) (by omega);omega
theorem md2(a:Int):a%2=0\/a%2=1:=by omega
theorem SOK.next{s:JF}{i:Nat}(X:SOK s i)(hi:i+1<=5)(f:Int×Int×Int):SOK (MR s f) (i+1):=by
 unfold MR;split
 .exact X.mono (by omega) hi
 .rename_i h;exact X.fold hi ((f41 X).1 (d1t h)) (md2 _) _
theorem sx_ok(w h:Int):SOK (sxSt w h) 0:=by
 have a1:=Int.emod_nonneg w (b:=4) (by omega);have a2:=Int.emod_lt_of_pos w (b:=4) (by omega);have b1:=Int.emod_nonneg h (b:=4) (by omega);have b2:=Int.emod_lt_of_pos h (b:=4) (by omega);have hs:AV (1+w%4) (1+h%4)=0:=by
  have a:w%4=0\/w%4=1\/w%4=2\/w%4=3:=by omega
  have d:h%4=0\/h%4=1\/h%4=2\/h%4=3:=by omega
  rcases a with e|e|e|e<;>rcases d with g|g|g|g<;>rw[e,g]<;>decide
 have G:=d2n (B:=3) hs (by omega);exact⟨G.pl (by omega),by show 1+w%4<=4/\1+h%4<=4;omega,by show 0<=_;omega,λc f=>by cases f⟩
theorem so_ok:∀(l:List (Int×Int×Int)) (s:JF) (i:Nat),SOK s i->i+l.length<=5->SOK (l.foldl MR s) (i+l.length)
 | [],s,i,h,_=>h
 |f::l,s,i,h,a=>by rw[List.length_cons]at a⊢;have:=so_ok l (MR s f) (i+1) (h.next (by omega) f) (by omega);rw[show i+(l.length+1)=i+1+l.length by omega];exact this
theorem sOf_ok(w h:Int)(l:List (Int×Int×Int)):SOK (LH w h l) 5:=by
 have hl:(l.take 5).length<=5:=by rw[List.length_take];omega
 have:=so_ok (l.take 5) (sxSt w h) 0 (sx_ok w h) (by omega);exact this.mono (by omega) (by omega)
theorem d7e:∀(l:List (Int×Int×Int)) (s:JF),OU s=[]->l.foldl MR s=s
 | [],_,_=>rfl
 |f::l,s,h=>by
  have e:MR s f=s:=by unfold MR;rw[if_pos h]
  rw[List.foldl_cons,e];exact d7e l s h
def GQ(S A:List Stk)(q:Nat):Bool:=decide (q<S.length)&& !(A.any λx=>decide (x.c=(S.getD q AA.d).c))
theorem Sn{S A:List Stk}{q:Nat}:GQ S A q=true↔q<S.length/\(S.getD q AA.d).c∉A.map (·.c):=by unfold GQ;rw[Jt,Jb,Bool.not_eq_true',Jg];simp only[Jb,Jp,not_exists,not_and]
theorem d4j(S:List Stk)(q:Nat):GQ S [] q=decide (q<S.length):=by unfold GQ;simp
theorem f2b{A:List Stk}(nA:DS A){i:Nat}(hi:i<A.length):(A.getD i AA.d).c∉(A.take i).map (·.c):=by
 unfold DS at nA;have h:(A.take (i+1)).map (·.c)=(A.take i).map (·.c)++[(A.getD i AA.d).c]:=by rw[JD (d:=AA.d) hi,Lk];rfl
 have a:((A.take (i+1)).map (·.c)).Nodup:=Nh ((List.take_sublist _ _).map _) nA;rw[h,N5]at a;exact λb=>a.2.2 _ b _ Dx rfl
theorem nd_eq{S:List Stk}(a:DS S){j k:Nat}(b:j<S.length)(f:k<S.length)(h:(S.getD j AA.d).c=(S.getD k AA.d).c):j=k:=by
 rcases Lz j k with e|e|e
 .exfalso;refine f2b a f ?_;rw[<-h];refine Jp.2 ⟨S.getD j AA.d,?_,rfl⟩;rw[Ix,Iy b];exact List.mem_take_iff_getElem.2 ⟨j,Dv,rfl⟩
 .exact e
 .exfalso;refine f2b a b ?_;rw[h];refine Jp.2 ⟨S.getD k AA.d,?_,rfl⟩;rw[Ix,Iy f];exact List.mem_take_iff_getElem.2 ⟨k,Dv,rfl⟩
section
variable{over:Bool}{S A:List Stk}{i k:Nat}
theorem d2y(nA:DS A)(hi:i<A.length)(f:k<(Al over S (A.take i)).length)(a:((Al over S (A.take i)).getD k AA.d).c=(A.getD i AA.d).c):k<S.length/\(S.getD k AA.d).c=(A.getD i AA.d).c/\(Al over S (A.take i)).getD k AA.d=S.getD k AA.d/\GQ S (A.take i) k=true:=by
 have hx:=f2b nA hi;by_cases h:k<S.length
 .obtain⟨g1,g⟩:=@Xc over (A.take i) S k h;have b:(S.getD k AA.d).c=(A.getD i AA.d).c:=g1.symm.trans a;have e:(S.getD k AA.d).c∉(A.take i).map (·.c):=by rw[b];exact hx
  exact⟨h,b,g e,Sn.2 ⟨h,e⟩⟩
 .exfalso;have:=@c7k over (A.take i) S k Dv f;rw[a]at this;exact hx this
theorem f50(h:DS S)(hi:i<A.length)(j:k<S.length)(g:(S.getD k AA.d).c=(A.getD i AA.d).c){q:Nat}:GQ S (A.take (i+1)) q=(!decide (q=k)&&GQ S (A.take i) q):=by
 rw[L7,Jt,Sn,Sn,JD (d:=AA.d) hi,Lk,Jy,not_or,Bool.not_eq_true',L3];simp only[Km,List.map_nil,Js];constructor
 .rintro⟨b,a,f⟩;refine⟨λe=> ?_,b,a⟩;subst e;exact f g
 .rintro⟨b,a,f⟩;exact⟨a,f,λe=>b (nd_eq h a j (e.trans g.symm))⟩
theorem d16(hi:i<A.length)(f:∀j,j<(Al over S (A.take i)).length->((Al over S (A.take i)).getD j AA.d).c≠(A.getD i AA.d).c){q:Nat}:GQ S (A.take (i+1)) q=GQ S (A.take i) q:=by
 rw[L7,Sn,Sn,JD (d:=AA.d) hi,Lk,Jy,not_or];simp only[Km,List.map_nil,Js];constructor
 .rintro⟨a,b,h3⟩;exact⟨a,b⟩
 .rintro⟨a,b⟩;refine⟨a,b,λe=> ?_⟩;have hl:=(@VG over (A.take i) S).1;exact f q Dv (((@Xc over (A.take i) S q a).1).trans e)
end
section
variable{α:Type}{key:α->List Int}
abbrev TB(key:α->List Int)(l:List α):Prop:=l.Pairwise λa b=>BC (key a) (key b)<0
theorem d6g:∀(l m:List α),TB key l->TB key m->(∀x,x∈l↔x∈m)->l=m
 | [],[],_,_,_=>rfl
 | [],y::m,_,_,h=>absurd ((h y).2 Dx) Dx
 |x::l,[],_,_,h=>absurd ((h x).1 Dx) Dx
 |x::l,y::m,c,d,h=>by
  rw[TB,Ki]at c d;have e:x=y:=by
   rcases Jd.1 ((h x).1 Dx)with e|e
   .exact e
   .rcases Jd.1 ((h y).2 Dx)with f|f
    .exact f.symm
    .have:=Vm _ _ _ (d.1 x e) (c.1 y f);rw[VU]at this;omega
  subst e;have g:∀{l:List α},(∀a∈l,BC (key x) (key a)<0)->x∉l:=λi hx=>by have:=i x hx;rw[VU]at this;omega
  rw[d6g l m c.2 d.2 λz=>⟨λb=>by
   rcases Jd.1 ((h z).1 (Jz _ b))with e|e
   .subst e;exact absurd b (g c.1)
   .exact e,λb=>by
   rcases Jd.1 ((h z).2 (Jz _ b))with e|e
   .subst e;exact absurd b (g d.1)
   .exact e⟩]
theorem f0s{l:List α}(d:(l.map key).Nodup):TB key (GZ key l):=by have c:((GZ key l).map key).Nodup:=(((Uy key l).map key).nodup_iff).2 d;rw[List.Nodup,L4]at c;refine((b12 key l).and c).imp λ{a b} h=> ?_;have h3:BC (key a) (key b)≠0:=λe=>h.2 (QK _ _ e);have:=h.1;omega
theorem pw_of{d:α}{l:List α}(h:∀i j,i<j->j<l.length->BC (key (l.getD i d)) (key (l.getD j d))<0):TB key l:=by rw[TB,K8];intro i j b a c;have:=h i j c a;rw[Ix,Ix,Iy b,Iy a]at this;exact this
end
theorem f5m(L:List Stk):∀i,i<=L.length->(oF L i).map (·.1)=Al true [] (L.take i)
 |0,_=>rfl
 |i+1,h=>by
  have s:=f5m L i Dv;have b:=(VT (L:=L) i Dv).2.1;rw[Wo Dv,b51 Dv,<-s];generalize L.getD i AA.d=x;generalize oF L i=O at b;have g:∀j,((O.map (·.1)).getD j AA.d)=(O.getD j dO).1:=λj=>by rw[Ix,Ix,Jr];cases O[j]?<;>rfl
  have gk:∀j,j<O.length->(kO O).getD j []=FI (O.getD j dO).1.c:=λj a=>by unfold kO;rw[Ix,Ix,Jr,Iy a];rfl
  cases hf:Fl O (FI x.c)with
  |some k=>
   obtain⟨m,n⟩:=VX hf;rw[Sw hf,List.map_set];have o:((O.map (·.1)).getD k AA.d).c=x.c:=by rw[g];exact c02 n
   have a:∀j,j<k->((O.map (·.1)).getD j AA.d).c≠x.c:=λj a e=>by
    rw[g]at e;rw[List.Nodup,K8]at b;have hl:(kO O).length=O.length:=by unfold kO;rw[List.length_map]
    have:=b j k Dv Dv a;have q:=gk j Dv;have r:=gk k m;rw[Ix,Iy Dv]at q r;refine this ?_;show (kO O)[j]=(kO O)[k];have f:(kO O)[j]=FI (O.getD j dO).1.c:=q;have l:(kO O)[k]=FI (O.getD k dO).1.c:=r;rw[f,l,e,n]
   rw[b4c _ k (by rw[Jv];exact m) a o,o,g];rfl
  |none=>
   rw[TF hf,Lk];refine(b16 _ λj a e=> ?_).symm;rw[Jv]at a;rw[g]at e;refine c7z hf ?_;rw[<-e];unfold kO;refine Jp.2 ⟨O.getD j dO,?_,rfl⟩;rw[Ix,Iy a];exact K2 a
theorem c63{A:List Stk}(h:DS A):∀i,i<=A.length->Al true [] (A.take i)=A.take i
 |0,_=>rfl
 |i+1,hi=>by rw[b51 Dv,c63 h i Dv,JD (d:=AA.d) (by omega:i<A.length)];refine b16 _ λj a e=>f2b h (by omega:i<A.length) ?_;rw[<-e];exact Jp.2 ⟨_,BW a,rfl⟩
theorem ov_mrg{A B:List Stk}(a:DS A):(oF (A++B) (A++B).length).map (·.1)=Al true A B:=by
 have e:=c63 a A.length (J9 _);rw[Kx]at e;rw[f5m _ _ (J9 _),Kx];have b:Al true [] (A++B)=Al true (Al true [] A) B:=by unfold Al;rw[List.foldl_append]
 rw[b,e]
theorem g0i{M:List Stk}(h:DS M):(M.map RL).Nodup:=by unfold DS at h;rw[List.Nodup,L4]at h⊢;exact h.imp λb e=>b (b9d (a:=_) e)
theorem StG.pos{p:Pt}{r:Mv}{L:List Stk}{P:Int->Mv}{B:Int}(X:StG p r L P B):0<L.length:=by
 have hN:=CR X.hs;have h:=(X.flat_mem 0).2 ⟨Mt _,Dv⟩;cases L with
 |nil=>simp[BG]at h
 |cons s L=>simp
def gv(m:Mv)(l:List Int):List Int:=if m.t<4 then l else l.reverse
section
variable{p:Pt}{r m:Mv}{L L':List Stk}{P:Int->Mv}{B B':Int}
end
end Go.Proofs.YtaihldljnlgnoaaGreatDoor.V
