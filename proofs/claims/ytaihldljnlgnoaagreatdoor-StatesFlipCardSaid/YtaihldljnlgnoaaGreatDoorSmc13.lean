/-
  Parts of the proof: Y18 T4 T5 Q9 D21 D28. Conditions: none.
-/
import Derived.Test.YtaihldljnlgnoaaGreatDoorSmc5
import Derived.Test.YtaihldljnlgnoaaGreatDoorSmc7
import Derived.Test.YtaihldljnlgnoaaGreatDoorSmc9
import Derived.Test.YtaihldljnlgnoaaGreatDoorSmc10
import Derived.Test.YtaihldljnlgnoaaGreatDoorSmc11
import Derived.Test.YtaihldljnlgnoaaGreatDoorSmc12
set_option maxRecDepth 100000
set_option maxHeartbeats 40000000
namespace Go.Proofs.YtaihldljnlgnoaaGreatDoor.V
open Go
def FS:RT (Int×Int×Int):=⟨3,λx=>[.int .u8 x.1,.int .u8 x.2.1,.int .u8 x.2.2],λl=>match l with
 | [.int _ a,.int _ b,.int _ c]=>(a,b,c)
 |_=>(0,0,0),(0,0,0),λ_=>rfl⟩
def HE(w h:Int)(l:List (Int×Int×Int)):List SV:=[.int .u8 w,.int .u8 h,.sl 3 l.length (FS.row l) none]
def Pu(n:Int):Prop:=0<=n/\n<=255
def OD(w h:Int)(l:List (Int×Int×Int)):Prop:=Pu w/\Pu h/\∀f∈l,Pu f.1/\Pu f.2.1/\Pu f.2.2
def asS:SV->Option (Prop×Int×Int×List (Int×Int×Int))
 |.agg [.int .u8 w,.int .u8 h,x]=>(FS.as x).map λq=>(FS.isL q.1 q.2/\OD w h (FS.lst q.1 q.2),w,h,FS.lst q.1 q.2)
 |_=>none
theorem asS_le{s:SV}{q:Prop}{w h:Int}{l:List (Int×Int×Int)}(k:asS s=some (q,w,h,l))(a:q):s.le2 (.agg (HE w h l))/\OD w h l:=by
 unfold asS at k;split at k
 .rename_i w' h' x;simp only[Iq]at k;obtain⟨v,b,rfl,rfl,rfl,rfl⟩:=k;refine⟨?_,a.2⟩;have:=FS.as_leL b a.1;simp only[SV.le2,SV.le1,BJ,HE];exact⟨E9,E9,this,Ji⟩
 .cases k
def stV(s:II):SV:=.agg (BD s.1 s.2.1 s.2.2)
def kSOf:AK
 | [x]=>(asS x).map λq=>(q.1,stV (NS q.2.1 q.2.2.1 q.2.2.2))
 |_=>none
def FSOf:Fam:=⟨Int×Int×List (Int×Int×Int),λ(w,h,l)=>[.agg (HE w h l)],λ(w,h,l)=>OD w h l,λ(w,h,l)=>stV (NS w h l)⟩
def ISOf:Int×Int×List (Int×Int×Int)->Nat->Option Inv
 |(w,h,l),3=>some {β:=Nat×II,ok:=λ(i,s)=>(i<=l.length/\i<=5)/\SOK s i/\((l.take 5).drop i).foldl MG s=NS w h l,st:=λ(i,s)=>⟨[⟨4,none,.int .i64 i⟩,⟨3,none,.own 2 0⟩,⟨2,none,.own 1 0⟩,⟨1,none,.own 0 0⟩],[.cells 24 (HE w h l),.cells 34 [.int .i64 0,.int .i64 0,.con (.slice none 0 0),.int .u8 0,.int .i64 0,.int .i64 0,.con (.slice none 0 0)],.cells 34 (BD s.1 s.2.1 s.2.2)]⟩,μ:=λ(i,_)=>l.length-i}
 |_,_=>none
theorem pSOf:PS 9 kSOf:=by
 refine con [(28,g1k),(29,d9c),(30,f8f)] (by simpa using⟨pFl28,pLn28,pFd28⟩) FSOf ISOf kSOf ?_ ?_ Tryz.func9 E5 E5 E5 ?_
 .intro args pre s h I;unfold kSOf at h;split at h
  .rename_i x;simp only[Iq]at h;obtain⟨⟨q,w,J,l⟩,hx,rfl,rfl⟩:=h;obtain⟨k,A⟩:=asS_le hx I;exact⟨(w,J,l),⟨k,Ji⟩,A,rfl⟩
  .cases h
 .exact C4
 .rintro⟨w,v,l⟩ ⟨⟨K,w2⟩,⟨M,v2⟩,N⟩;have hx:=sx_ok w v;have m:AO (1+w%4) (1+v%4)=0:=hx.g.hs;have O:=Km (b:=4) K;have P:=Km (b:=4) M;refine X0a _ ?_;(repeat' first|constructor|intro h)<;>refine Lm ?_
  all_goals(try simp only[O,P]at*)
  all_goals(try first
   |exact m
   |exact As)
  refine⟨((0:Nat),sxSt w v),⟨⟨Js _,Js _⟩,hx,rfl⟩,?_,?_⟩
  .exact X2a
  .rintro⟨i,⟨p,r,L⟩⟩ o;replace o:(i<=l.length/\i<=5)/\SOK (p,r,L) i/\((l.take 5).drop i).foldl MG (p,r,L)=NS w v l:=o;obtain⟨⟨i1,B⟩,X,C⟩:=o;have j:=X.g;have t7:=c8y (i:=i) B;have t:=Ty (X.prOK B) j.stIn;have E:=(j.places E4).1;dsimp only at j t E;have Q:∀a b c:Int,[a,b,c].getD (Int.toNat 0) 0=a:=λ_ _ _=>rfl;have R:∀a b c:Int,[a,b,c].getD (Int.toNat 1) 0=b:=λ_ _ _=>rfl;have S:∀a b c:Int,[a,b,c].getD (Int.toNat 2) 0=c:=λ_ _ _=>rfl;have F:i<l.length->Pu (l.getD i FS.d).1/\Pu (l.getD i FS.d).2.1/\Pu (l.getD i FS.d).2.2:=λh=>N _ (CY h);have u:(¬(i<l.length/\i<5))\/El (BF p r)=[]->(p,r,L)=NS w v l:=λh=>by
    rw[<-C];rcases h with h|h
    .rw[List.drop_eq_nil_of_le F7];rfl
    .exact(d6z _ _ (show Oa (p,r,L)=[]from h)).symm
   have YH:i<l.length->i<5->((l.take 5).drop (i+1)).foldl MG (MG (p,r,L) (l.getD i FS.d))=NS w v l:=λk A=>by rw[<-C,List.drop_eq_getElem_cons (i:=i) F7];rw[Mg,List.getElem_take,Jd,Je k];rfl
   refine X0b _ ?_;(repeat' first|constructor|intro h)<;>refine Lm ?_
   all_goals(try simp only[CR,RT.lst_row,Qb,QJ,Q,R,S,In,It]at*)
   all_goals(try first
    |exact⟨t,E⟩
    |exact Ay
    |(have q:=F E4;unfold Pu at q;simp only[AD];omega))
   all_goals(try(
    have e:=u (by first|exact .inl E4|exact .inr (M5.1 E4));rw[<-e];all_goals first|exact B7))
   all_goals
    have y:i<l.length:=E4;have z:i<5:=E4;have G:Oa (p,r,L)≠[]:=λe=>by have e2:(El (BF p r)).length=0:=Md List.length e;omega
    obtain⟨⟨F1,_⟩,⟨T,_⟩,⟨U,_⟩⟩:=F y;have V:=Km (b:=((El (BF p r)).length:Int)) F1;have W:=Km (b:=2) T;have Y:=Km (b:=2) U;have Z:=My (l.getD i FS.d).1 (b:=((El (BF p r)).length:Int)) E4;have m2:=Mr (l.getD i FS.d).1 (b:=((El (BF p r)).length:Int)) E4;have nv:=(f3m X).1 (d1f (s:=(p,r,L)) (a:=(l.getD i FS.d).1) G);obtain⟨hK,H⟩:=on_bd j nv;have fo:MG (p,r,L) (l.getD i FS.d)=UV (p,r,L) (YD (p,r,L) (l.getD i FS.d).1).1 (YD (p,r,L) (l.getD i FS.d).1).2 ((l.getD i FS.d).2.1%2) (decide ((l.getD i FS.d).2.2%2=1)):=by unfold MG;rw[Jg G]
    have hX:=X.next (f:=l.getD i FS.d) E4;have Q6:=YH y z;simp only[V,W,Y]
   all_goals first
    |exact⟨Z,m2⟩
    |exact⟨t,j.mono E4,hK,⟨Int.le_trans E4 H.1,Int.le_trans H.2 E4⟩,md2 _⟩
    |(refine⟨(i+1,MG (p,r,L) (l.getD i FS.d)),⟨⟨y,by show i+1<=5;omega⟩,hX,Q6⟩,by show l.length-(i+1)<l.length-i;omega,?_⟩
      rw[fo];all_goals refine X0b _ ?_;(repeat' first|constructor|intro h)<;>refine Lm ?_
      all_goals first
       |exact B7
       |skip)
    |skip
def Sn(a r:SV):AK
 | [x]=>some (x=a,r)
 |_=>none
def Ry(a b r:SV):AK
 | [x,y]=>some (x=a/\y=b,r)
 |_=>none
theorem f4j{f:FuncId}{k:AK}{a r:SV}(h:PS f k)(e:∃q,k [a]=some (q,r)/\q):PS f (Sn a r):=XY h λargs pre s b c=>by
 unfold Sn at b;split at b
 .cases b;subst c;exact e
 .cases b
theorem f3w{f:FuncId}{k:AK}{a b r:SV}(h:PS f k)(e:∃q,k [a,b]=some (q,r)/\q):PS f (Ry a b r):=XY h λargs pre s c d=>by
 unfold Ry at c;split at c
 .cases c;obtain⟨rfl,rfl⟩:=d;exact e
 .cases c
def TX(xs:List SV)(r:SV):AK:=λa=>some (a=xs,r)
theorem f4w{F:Fam}{f:FuncId}(hf:∃fn,Tryz.prog.funcs[f]?=some fn/\(fn.name== "runtime.NumGoroutine")=false/\fn.body.isNone=false)(h:∀i,F.pre i->PS f (TX (F.args i) (.bool true))):PS f (SL F):=⟨hf,λA w args vals pre s hA hg hD hk hp=>by
 unfold SL at hk;split at hk
 .rename_i Zf;obtain⟨i,hi,rfl⟩:=Zf;cases hk;exact(h i hi).2 A w _ vals _ _ hA hg hD rfl rfl
 .cases hk⟩
def F1(xs:List SV)(r:SV):Fam:=⟨Unit,λ_=>xs,λ_=>True,λ_=>r⟩
theorem law1{xs:List SV}{r:SV}(h:BN xs xs):RO (F1 xs r) (TX xs r):=λzs p s a b=>by unfold TX at a;cases a;subst b;exact⟨(),h,Ji,rfl⟩
theorem asS_sx(w h:Int)(l:List (Int×Int×Int))(hx:OD w h l):∃q,asS (.agg (HE w h l))=some (q,w,h,l)/\q:=by
 have a:FS.lst l.length (FS.row l)=l:=RT.lst_row _ _;have b:∃q,asS (.agg (HE w h l))=some (q,w,h,FS.lst l.length (FS.row l))/\q:=⟨_,rfl,FS.isL_row l,by rw[a];exact hx⟩
 rw[a]at b;exact b
theorem oSOf{w h:Int}{l:List (Int×Int×Int)}{p:Pt}{r:Mv}{L:List Stk}(hx:OD w h l)(e:NS w h l=(p,r,L)):PS 9 (Sn (.agg (HE w h l)) (.agg (BD p r L))):=f4j pSOf (by obtain⟨q,a,b⟩:=asS_sx w h l hx;refine⟨q,?_,b⟩;unfold kSOf;simp only[a,Kn,e];rfl)
section
variable{p:Pt}{r:Mv}{L:List Stk}
structure StS (p:Pt) (r:Mv) (L:List Stk):Prop where
 X:SOK (p,r,L) 5
 pr:prOK p r
 sn:EV L
 g:StG p r L (AM p r) 971
 ck:FE p r L=0
 bo:CF p r=0
theorem f53{w h:Int}{l:List (Int×Int×Int)}(e:NS w h l=(p,r,L)):StS p r L:=by have X:=sOf_ok w h l;rw[e]at X;have a:Py 5=971:=E7;have g:=X.g;rw[a]at g;exact⟨X,X.prOK (Jm _),g.stIn,g,X.chk (Jm _),(g.places E4).1⟩
end
def SV.nc0:SV->SV
 |.con (.int k n)=>.int k n
 |s=>s
def SV.nc1:SV->SV
 |.agg a=>.agg (a.map SV.nc0)
 |s=>s.nc0
def SV.nc2:SV->SV
 |.tup a=>.tup (a.map SV.nc1)
 |s=>s.nc1
section
variable{w:World}{A:Nat->Prop}{μ:Mu}
theorem f9j{s:SV}{v:Value}:D w A μ s v↔D w A μ s.nc0 v:=by
 unfold SV.nc0;split
 .constructor
  .intro h;cases h;exact .int
  .intro h;cases h;exact .con
 .exact Iff.rfl
theorem d8c{s:SV}{v:Value}:D w A μ s v↔D w A μ s.nc1 v:=by
 unfold SV.nc1;split
 .constructor
  .intro h;cases h with
   |agg b hl c=>
    refine .agg b Ht λi t u a d=> ?_;rw[K1,Jk]at a;obtain⟨e,f,rfl⟩:=a;exact f9j.1 (c i e u f d)
  .intro h;cases h with
   |agg b hl c=>
    rw[Ke]at hl;refine .agg b hl λi t u a d=> ?_;exact f9j.2 (c i t.nc0 u (by rw[K1,a];rfl) d)
 .exact f9j
theorem d_nc2{s:SV}{v:Value}:D w A μ s v↔D w A μ s.nc2 v:=by
 unfold SV.nc2;split
 .constructor
  .intro h;cases h with
   |tup b hl c=>
    refine .tup b Ht λi t u a d=> ?_;rw[K1,Jk]at a;obtain⟨e,f,rfl⟩:=a;exact d8c.1 (c i e u f d)
  .intro h;cases h with
   |tup b hl c=>
    rw[Ke]at hl;refine .tup b hl λi t u a d=> ?_;exact d8c.2 (c i t.nc1 u (by rw[K1,a];rfl) d)
 .exact d8c
end
theorem XW{f:FuncId}{k g:AK}(h:PS f k)(hs:∀a b s,g a=some (b,s)->b->∃q,k (a.map SV.nc1)=some (q,s.nc2)/\q):PS f g:=⟨h.1,λA w a c b s l m n e o=>by
 obtain⟨q,r,x⟩:=hs a b s e o;obtain⟨hl,d⟩:=n;refine(h.2 A w (a.map SV.nc1) c q s.nc2 l m ⟨Ht,λi t u j y=> ?_⟩ r x).mono ?_
 .rw[K1,Jk]at j;obtain⟨z,B,rfl⟩:=j;exact d8c.1 (d i z u B y)
 .rintro e w' ⟨v,rfl,d,C⟩;exact⟨v,rfl,d_nc2.2 d,C⟩⟩
def Sc(P:Prop)(a r:SV):AK
 | [x]=>some (x=a/\P,r)
 |_=>none
theorem c4z{f:FuncId}{k:AK}{P:Prop}{a r:SV}(h:PS f k)(e:P->∃q,k [a.nc1]=some (q,r.nc2)/\q):PS f (Sc P a r):=XW h λargs pre s b c=>by
 unfold Sc at b;split at b
 .cases b;obtain⟨rfl,d⟩:=c;exact e d
 .cases b
section
variable{α:Type}{d:α}{lt:α->α->Bool}
def EI(d:α)(lt:α->α->Bool)(l:List α)(a b:Nat):Prop:=∀i j,a<=i->i<j->j<b->lt (l.getD j d) (l.getD i d)=false
structure Fra (d:α) (a b:Nat) (l' l:List α):Prop where
 len:l'.length=l.length
 out:∀i,i<a\/b<=i->l'.getD i d=l.getD i d
 mem:∀i,a<=i->i<b->∃j,(a<=j/\j<b)/\l'.getD i d=l.getD j d
theorem Fra.refl(a b:Nat)(l:List α):Fra d a b l l:=⟨rfl,λ_ _=>rfl,λi c e=>⟨i,⟨c,e⟩,rfl⟩⟩
theorem Fra.trans{a b:Nat}{l c m:List α}(h:Fra d a b c m)(k:Fra d a b m l):Fra d a b c l:=⟨h.1.trans k.1,λi f=>(h.2 i f).trans (k.2 i f),λi n o=>by obtain⟨j,g,e⟩:=h.3 i n o;obtain⟨q,p,r⟩:=k.3 j g.1 g.2;exact⟨q,p,e.trans r⟩⟩
theorem Fra.wide{a b a' c:Nat}{l f:List α}(h:Fra d a b f l)(ha:a'<=a)(hb:b<=c):Fra d a' c f l:=⟨h.1,λi hi=>h.2 i E4,λi g k=>by
 by_cases q:a<=i/\i<b
 .obtain⟨j,hj,e⟩:=h.3 i q.1 q.2;exact⟨j,E4,e⟩
 .exact⟨i,⟨g,k⟩,h.2 i E4⟩⟩
theorem EI.keep{a b x y:Nat}{l c:List α}(h:EI d lt l a b)(f:Fra d x y c l)(q:b<=x\/y<=a):EI d lt c a b:=λi j e g k=>by rw[f.2 i E4,f.2 j E4];exact h i j e g k
theorem EI.one{a b:Nat}{l:List α}(h:b<=a+1):EI d lt l a b:=λi j h1 h2 h3=>E4
theorem Rb{l:List α}{i j:Nat}(hi:i<l.length)(c:j<l.length)(k:Nat):(DK d l i j).getD k d=if k=j then l.getD i d else if k=i then l.getD j d else l.getD k d:=by
 unfold DK;simp only[Jd,List.getElem?_set,L5];by_cases a:j=k
 .subst a;simp[c]
 .rw[Jg a,Jg (show¬k=j from λe=>a e.symm)];by_cases b:i=k
  .subst b;simp[hi]
  .rw[Jg b,Jg (show¬k=i from λe=>b e.symm)]
theorem SZ{l:List α}{i j:Nat}:(DK d l i j).length=l.length:=by simp[DK]
theorem f6t{l:List α}{a b i j:Nat}(hb:b<=l.length)(hi:a<=i/\i<b)(f:a<=j/\j<b):Fra d a b (DK d l i j) l:=⟨SZ,λk hk=>by
 rw[Rb E4 E4,Jg E4,Jg E4],λk g m=>by
 rw[Rb E4 E4];by_cases c:k=j
 .exact⟨i,hi,by rw[Jf c]⟩
 .by_cases e:k=i
  .exact⟨j,f,by rw[Jg c,Jf e]⟩
  .exact⟨k,⟨g,m⟩,by rw[Jg c,Jg e]⟩⟩
theorem b5z{a b:Nat}:∀(j:Nat) (l:List α),j<b->b<=l.length->Fra d a b (FN d lt a j l) l
 |0,l,_,_=>Fra.refl _ _ l
 |j+1,l,h,c=>by
  unfold FN;split
  .rename_i q;have hs:=f6t (d:=d) (a:=a) (i:=j+1) (j:=j) c E4 E4;exact(b5z j _ E4 (by rw[hs.1];exact c)).trans hs
  .exact Fra.refl _ _ l
theorem b77{a b:Nat}:∀(k i:Nat) (l:List α),i+k<=b->b<=l.length->Fra d a b (GO d lt a k i l) l
 |0,_,l,_,_=>Fra.refl _ _ l
 |k+1,i,l,h,c=>by unfold GO;have hs:=b5z (d:=d) (lt:=lt) (a:=a) i l (by omega:i<b) c;exact(b77 k (i+1) _ E4 (by rw[hs.1];exact c)).trans hs
theorem b8m{a b:Nat}{l:List α}(c:b<=l.length):Fra d a b (FP d lt a b l) l:=by
 unfold FP;by_cases e:a+1<=b
 .exact b77 _ _ _ E4 c
 .rw[show b-(a+1)=0 from E4];exact Fra.refl _ _ l
theorem b9a{a b:Nat}:∀(k i:Nat) (l:List α),a+k<=b->b+i+k<=l.length->∀x,(Hl d a b k i l).getD x d=if a+i<=x/\x<a+i+k then l.getD (x-a+b) d else if b+i<=x/\x<b+i+k then l.getD (x-b+a) d else l.getD x d
 |0,i,_,_,_,x=>by rw[Jg E4,Jg E4];rfl
 |k+1,i,l,h1,h2,x=>by
  show (Hl d a b k (i+1) (DK d l (a+i) (b+i))).getD x d=_;rw[b9a k (i+1) _ E4 (by rw[SZ];omega)];simp only[Rb (show a+i<l.length from E4) (show b+i<l.length from E4)];repeat' split
  all_goals first|exact Ap
theorem c0a{a b:Nat}:∀(k i:Nat) (l:List α),(Hl d a b k i l).length=l.length
 |0,_,_=>rfl
 |k+1,i,_=>(c0a k (i+1) _).trans SZ
theorem b8k{m:Nat}:∀(f i j:Nat) (l:List α),i+j<=f->0<i->0<j->i<=m->m+j<=l.length->(PX d m f i j l).length=l.length/\∀x,(PX d m f i j l).getD x d=if m-i<=x/\x<m-i+j then l.getD (x+i) d else if m-i+j<=x/\x<m+j then l.getD (x-j) d else l.getD x d
 |0,i,j,l,h,n,_,_,_=>E4
 |f+1,i,j,l,h,n,q,r,h4=>by
  unfold PX;by_cases e:i=j
  .subst e;rw[Jf rfl];refine⟨c0a _ _ _,λx=> ?_⟩;rw[b9a _ _ _ E4 E4];repeat' split
   all_goals first|exact Ap
  .rw[Jg e];by_cases o:j<i
   .rw[Jf o];have c:=c0a (d:=d) (a:=m-i) (b:=m) j 0 l;obtain⟨g,k⟩:=b8k (m:=m) f (i-j) j (Hl d (m-i) m j 0 l) E4 E4 q E4 (by rw[c];omega);refine⟨g.trans c,λx=> ?_⟩;rw[k];simp only[b9a (d:=d) (a:=m-i) (b:=m) j 0 l E4 E4];repeat' split
    all_goals first|exact Ap
   .rw[Jg o];have c:=c0a (d:=d) (a:=m-i) (b:=m+j-i) i 0 l;obtain⟨g,k⟩:=b8k (m:=m) f i (j-i) (Hl d (m-i) (m+j-i) i 0 l) E4 n E4 r (by rw[c];omega);refine⟨g.trans c,λx=> ?_⟩;rw[k];simp only[b9a (d:=d) (a:=m-i) (b:=m+j-i) i 0 l E4 E4];repeat' split
    all_goals first|exact Ap
theorem d4v:∀(n k:Nat) (l:List α),k+n<l.length->(MB d n k l).length=l.length/\∀x,(MB d n k l).getD x d=if k<=x/\x<k+n then l.getD (x+1) d else if x=k+n then l.getD k d else l.getD x d
 |0,k,l,h=>⟨rfl,λx=>by
  rw[Jg E4];split
  .rename_i e;rw[e];rfl
  .rfl⟩
 |n+1,k,l,h=>by
  obtain⟨a,b⟩:=d4v n (k+1) (DK d l k (k+1)) (by rw[SZ];omega);refine⟨a.trans SZ,λx=> ?_⟩;show (MB d n (k+1) (DK d l k (k+1))).getD x d=_;rw[b];simp only[Rb (show k<l.length from E4) (show k+1<l.length from E4)];repeat' split
  all_goals first|exact Ap
theorem d68:∀(n k:Nat) (l:List α),n<=k->k<l.length->(MJ d n k l).length=l.length/\∀x,(MJ d n k l).getD x d=if k-n<x/\x<=k then l.getD (x-1) d else if x=k-n then l.getD k d else l.getD x d
 |0,k,l,h,a=>⟨rfl,λx=>by
  rw[Jg E4];split
  .rename_i e;rw[e];rfl
  .rfl⟩
 |n+1,k,l,h,a=>by
  obtain⟨b,c⟩:=d68 n (k-1) (DK d l k (k-1)) E4 (by rw[SZ];omega);refine⟨b.trans SZ,λx=> ?_⟩;show (MJ d n (k-1) (DK d l k (k-1))).getD x d=_;rw[c];simp only[Rb (show k<l.length from E4) (show k-1<l.length from E4)];repeat' split
  all_goals first|exact Ap
theorem Uc{p:Nat->Bool}:∀(f i j:Nat),i<=j->j<=i+f->(i<=EF p f i j/\EF p f i j<=j)/\(i<EF p f i j->p (EF p f i j-1)=true)/\(EF p f i j<j->p (EF p f i j)=false)
 |0,i,j,h,g=>⟨⟨Jm _,h⟩,λq=>absurd q (M1 _),λq=>by have q':i<j:=q;omega⟩
 |f+1,i,j,h,g=>by
  unfold EF;by_cases e:i<j
  .rw[Jf e];by_cases d:p ((i+j)/2)=true
   .rw[Jf d];obtain⟨a,b,c⟩:=Uc (p:=p) f ((i+j)/2+1) j E4 E4;refine⟨E4,λ_=> ?_,c⟩;by_cases q:(i+j)/2+1<EF p f ((i+j)/2+1) j
    .exact b q
    .have:EF p f ((i+j)/2+1) j-1=(i+j)/2:=E4;rw[this];exact d
   .rw[Jg d];obtain⟨a,b,c⟩:=Uc (p:=p) f i ((i+j)/2) E4 E4;refine⟨E4,b,λ_=> ?_⟩;by_cases q:EF p f i ((i+j)/2)<(i+j)/2
    .exact c q
    .have:EF p f i ((i+j)/2)=(i+j)/2:=E4;rw[this];simpa using d
  .rw[Jg e];exact⟨E4,λq=>absurd q (M1 _),λq=>absurd q e⟩
variable (tr:∀ x y z, lt y x = false->lt z y = false->lt z x = false) (as':∀ x y, lt x y = true->lt y x = false)
include tr as'
theorem c1n{a i:Nat}:∀(j:Nat) (l:List α),a<=j->j<=i->i<l.length->(∀p q,a<=p->p<q->q<=i->p≠j->q≠j->lt (l.getD q d) (l.getD p d)=false)->(∀q,j<q->q<=i->lt (l.getD q d) (l.getD j d)=false)->EI d lt (FN d lt a j l) a (i+1)
 |0,l,s,t,o,g,m=>λp q g1 f n=>by
  show lt (l.getD q d) (l.getD p d)=false;by_cases e:p=0
  .subst e;exact m q f E4
  .exact g p q g1 f E4 e E4
 |j+1,l,s,t,o,g,m=>by
  unfold FN;split
  .rename_i c;refine c1n j _ E4 E4 (by rw[SZ];exact o) (λp q g1 f n u v=> ?_) λq g1 f=> ?_
   .rw[Rb E4 E4,Rb E4 E4,Jg v,Jg u];by_cases b:q=j+1
    .rw[Jf b,Jg E4];exact g p j g1 E4 E4 E4 E4
    .rw[Jg b];by_cases k:p=j+1
     .rw[Jf k];exact g j q E4 E4 n E4 b
     .rw[Jg k];exact g p q g1 f n k b
   .rw[Rb E4 E4,Rb E4 E4,Jf rfl,Jg E4];by_cases b:q=j+1
    .rw[Jf b];exact as' _ _ c.2
    .rw[Jg b];exact m q E4 f
  .rename_i c;intro p q g1 f n;by_cases b:p=j+1
   .subst b;exact m q f E4
   .by_cases k:q=j+1
    .subst k;have r:lt (l.getD (j+1) d) (l.getD j d)=false:=by
      cases hh:lt (l.getD (j+1) d) (l.getD j d)with
      |false=>rfl
      |true=>exact absurd ⟨E4,hh⟩ c
     by_cases w:p=j
     .rw[w];exact r
     .exact tr _ _ _ (g p j g1 E4 E4 b E4) r
    .exact g p q g1 f E4 b k
theorem b7u{a:Nat}:∀(k i:Nat) (l:List α),a<=i->i+k<=l.length->EI d lt l a i->EI d lt (GO d lt a k i l) a (i+k)
 |0,i,l,_,_,h=>h
 |k+1,i,l,c,h2,h=>by unfold GO;have hs:=b5z (d:=d) (lt:=lt) (a:=a) i l (by omega:i<l.length) (Jm _);have:=b7u k (i+1) (FN d lt a i l) E4 F4 (c1n tr as' i l c (Jm _) E4 (λp q g1 b g3 g4 g5=>h p q g1 b E4) λq g1 b=>E4);rw[show i+(k+1)=i+1+k from E4];exact this
theorem c6n{a b:Nat}{l:List α}(hb:b<=l.length):EI d lt (FP d lt a b l) a b:=by
 unfold FP;by_cases e:a+1<=b
 .have:=b7u tr as' (d:=d) (a:=a) (b-(a+1)) (a+1) l E4 E4 (EI.one E4);rw[show a+1+(b-(a+1))=b from E4]at this;exact this
 .exact EI.one E4
omit tr in
theorem EI.le{a b:Nat}{l:List α}(h:EI d lt l a b){i j:Nat}(h1:a<=i)(h2:i<=j)(h3:j<b):lt (l.getD j d) (l.getD i d)=false:=by
 by_cases e:i=j
 .subst e;cases hh:lt (l.getD i d) (l.getD i d)with
  |false=>rfl
  |true=>rw[as' _ _ hh]at hh;cases hh
 .exact h i j h1 E4 h3
theorem up_ok{a b:Nat}{l:List α}(hb:b<=l.length)(h1:a+1<b)(hs:EI d lt l (a+1) b):Fra d a b (MB d (MO d lt a (a+1) b l-1-a) a l) l/\EI d lt (MB d (MO d lt a (a+1) b l-1-a) a l) a b:=by
 obtain⟨n,f,g⟩:=Uc (p:=λh=>lt (l.getD h d) (l.getD a d)) (b-(a+1)) (a+1) b E4 E4;have e:MO d lt a (a+1) b l=EF (λh=>lt (l.getD h d) (l.getD a d)) (b-(a+1)) (a+1) b:=rfl;rw[<-e]at n f g;generalize MO d lt a (a+1) b l=s at n f g;obtain⟨g1,c⟩:=d4v (d:=d) (s-1-a) a l E4;have t:∀h,a+1<=h->h<s->lt (l.getD a d) (l.getD h d)=false:=λh k o=>tr _ _ _ (hs.le as' k (show h<=s-1 from E4) E4) (as' _ _ (f E4));have q:∀h,s<=h->h<b->lt (l.getD h d) (l.getD a d)=false:=λh k o=>tr _ _ _ (g E4) (hs.le as' E4 k o);refine⟨⟨g1,λi q=> ?_,λi u r=> ?_⟩,λi j u r m=> ?_⟩
 .rw[c,Jg E4,Jg E4]
 .rw[c];split
  .exact⟨i+1,E4,rfl⟩
  .split
   .exact⟨a,E4,rfl⟩
   .exact⟨i,E4,rfl⟩
 .rw[c,c];by_cases e1:j<s-1
  .rw[Jf E4,Jf E4];exact hs (i+1) (j+1) E4 E4 E4
  .rw[Jg E4];by_cases e2:j=s-1
   .rw[Jf E4,Jf E4];exact t (i+1) E4 E4
   .rw[Jg E4];by_cases e3:i<s-1
    .rw[Jf E4];exact hs (i+1) j E4 E4 m
    .rw[Jg E4];by_cases e4:i=s-1
     .rw[Jf E4];exact q j E4 m
     .rw[Jg E4];exact hs i j E4 r m
theorem dn_ok{a m:Nat}{l:List α}(t:m<l.length)(h1:a<m)(hs:EI d lt l a m):Fra d a (m+1) (MJ d (m-OG d lt a m l) m l) l/\EI d lt (MJ d (m-OG d lt a m l) m l) a (m+1):=by
 obtain⟨n,f,g⟩:=Uc (p:=λh=> !lt (l.getD m d) (l.getD h d)) (m-a) a m E4 E4;have e:OG d lt a m l=EF (λh=> !lt (l.getD m d) (l.getD h d)) (m-a) a m:=rfl;rw[<-e]at n f g;generalize OG d lt a m l=s at n f g;obtain⟨g1,b⟩:=d68 (d:=d) (m-s) m l E4 t;have u:∀h,a<=h->h<s->lt (l.getD m d) (l.getD h d)=false:=λh k o=>tr _ _ _ (hs.le as' k (show h<=s-1 from E4) E4) (by simpa using f E4);have q:∀h,s<=h->h<m->lt (l.getD h d) (l.getD m d)=false:=λh k o=>tr _ _ _ (as' _ _ (by simpa using g E4)) (hs.le as' E4 k o);refine⟨⟨g1,λi q=> ?_,λi c r=> ?_⟩,λi j c r h4=> ?_⟩
 .rw[b,Jg E4,Jg E4]
 .rw[b];split
  .exact⟨i-1,E4,rfl⟩
  .split
   .exact⟨m,E4,rfl⟩
   .exact⟨i,E4,rfl⟩
 .rw[b,b];by_cases e1:s<j
  .rw[Jf E4];by_cases v:s<i
   .rw[Jf E4];exact hs (i-1) (j-1) E4 E4 E4
   .rw[Jg E4];by_cases e3:i=s
    .rw[Jf E4];exact q (j-1) E4 E4
    .rw[Jg E4];exact hs i (j-1) c E4 E4
  .rw[Jg E4];by_cases v:j=s
   .rw[Jf E4,Jg E4,Jg E4];exact u i c E4
   .rw[Jg E4,Jg E4,Jg E4];exact hs i j c r E4
theorem sym_at{a m b:Nat}{l:List α}(h1:a<m)(h2:m<b)(hl:EI d lt l a m)(hr:EI d lt l m b):
 (a<=FC d lt a m b l/\FC d lt a m b l<=m/\FC d lt a m b l<=(a+b)/2)/\((a+b)/2+m-FC d lt a m b l<=b/\m<=(a+b)/2+m-FC d lt a m b l)/\
 (∀x y,a<=x->x<FC d lt a m b l->(a+b)/2+m-FC d lt a m b l<=y->y<b->lt (l.getD y d) (l.getD x d)=false)/\
 (∀x y,m<=x->x<(a+b)/2+m-FC d lt a m b l->FC d lt a m b l<=y->y<m->lt (l.getD y d) (l.getD x d)=false):=by
 unfold FC;by_cases j:(a+b)/2<m
 .rw[Jf j];obtain⟨g,e,f⟩:=Uc (p:=λc=> !lt (l.getD ((a+b)/2+m-1-c) d) (l.getD c d)) ((a+b)/2-((a+b)/2+m-b)) ((a+b)/2+m-b) ((a+b)/2) E4 E4;generalize EF (λc=> !lt (l.getD ((a+b)/2+m-1-c) d) (l.getD c d)) ((a+b)/2-((a+b)/2+m-b)) ((a+b)/2+m-b) ((a+b)/2)=s at g e f;refine⟨E4,E4,λx y g1 i g3 g4=> ?_,λx y g1 i g3 g4=> ?_⟩
  .have k:=e E4;rw[show (a+b)/2+m-1-(s-1)=(a+b)/2+m-s from E4]at k;exact Dz
  .have k:=f E4;rw[show (a+b)/2+m-1-s=(a+b)/2+m-s-1 from E4]at k;exact E1
 .rw[Jg j];obtain⟨g,e,f⟩:=Uc (p:=λc=> !lt (l.getD ((a+b)/2+m-1-c) d) (l.getD c d)) (m-a) a m E4 E4;generalize EF (λc=> !lt (l.getD ((a+b)/2+m-1-c) d) (l.getD c d)) (m-a) a m=s at g e f;refine⟨E4,E4,λx y g1 i g3 g4=> ?_,λx y g1 i g3 g4=> ?_⟩
  .have k:=e E4;rw[show (a+b)/2+m-1-(s-1)=(a+b)/2+m-s from E4]at k;exact Dz
  .have k:=f E4;rw[show (a+b)/2+m-1-s=(a+b)/2+m-s-1 from E4]at k;exact E1
omit tr as' in
theorem f01{a m b s:Nat}{l:List α}(hb:b<=l.length)(h1:a<=s/\s<=m/\s<=(a+b)/2)(h2:(a+b)/2+m-s<=b/\m<=(a+b)/2+m-s):(FG d a m b s l).length=l.length/\∀x,(FG d a m b s l).getD x d=if s<=x/\x<(a+b)/2 then l.getD (x+(m-s)) d else if(a+b)/2<=x/\x<(a+b)/2+m-s then l.getD (x+s-((a+b)/2)) d else l.getD x d:=by
 unfold FG;by_cases h:s<m/\m<(a+b)/2+m-s
 .rw[Jf h];obtain⟨r1,r2⟩:=b8k (d:=d) (m:=m) ((a+b)/2+m-s-s) (m-s) ((a+b)/2+m-s-m) l E4 E4 E4 E4 E4;refine⟨r1,λx=> ?_⟩;have:=r2 x;unfold HN;rw[this];repeat' split
  all_goals first|exact Ap
 .rw[Jg h];refine⟨rfl,λx=> ?_⟩;repeat' split
  all_goals first|exact Ap
theorem c8n:∀(f a m b:Nat) (l:List α),a<m->m<b->b<=l.length->b<=a+f->EI d lt l a m->EI d lt l m b->Fra d a b (DI d lt f a m b l) l/\EI d lt (DI d lt f a m b l) a b
 |0,a,m,b,l,F,G,_,h3,_,_=>E4
 |f+1,a,m,b,l,F,G,C,hf,z,A=>by
  unfold DI;by_cases O:m-a=1
  .rw[Jf O];obtain rfl:m=a+1:=E4;exact up_ok tr as' C G A
  .rw[Jg O];by_cases P:b-m=1
   .rw[Jf P];obtain rfl:b=m+1:=E4;exact dn_ok tr as' C F z
   .rw[Jg P];obtain⟨Q,S,T,U⟩:=sym_at tr as' F G z A;generalize FC d lt a m b l=s at Q S T U;obtain⟨E,n⟩:=f01 (d:=d) C Q S;generalize FG d a m b s l=g at E n;have hm:a<(a+b)/2/\(a+b)/2<b:=E4;generalize (a+b)/2=e at*;have F1:Fra d a b g l:=⟨E,λi hi=>by rw[n,Jg E4,Jg E4],λi g1 o=>by
     rw[n];split
     .exact⟨i+(m-s),E4,rfl⟩
     .split
      .exact⟨i+s-e,E4,rfl⟩
      .exact⟨i,E4,rfl⟩⟩
    have H:EI d lt g a s:=λi j g1 o r=>by rw[n,n,Jg E4,Jg E4,Jg E4,Jg E4];exact z i j g1 o E4
    have I:EI d lt g s e:=λi j g1 o r=>by rw[n,n,Jf E4,Jf E4];exact A _ _ E4 E4 E4
    have Z:EI d lt g e (e+m-s):=λi j g1 o r=>by rw[n,n,Jg E4,Jf E4,Jg E4,Jf E4];exact z _ _ E4 E4 E4
    have A4:EI d lt g (e+m-s) b:=λi j g1 o r=>by rw[n,n,Jg E4,Jg E4,Jg E4,Jg E4];exact A i j E4 o r
    have X:∀x y,a<=x->x<e->e<=y->y<b->lt (g.getD y d) (g.getD x d)=false:=λx y g1 o r V=>by
     have J:g.getD y d=if y<e+m-s then l.getD (y+s-e) d else l.getD y d:=by
      rw[n y,Jg E4];by_cases k:y<e+m-s
      .rw[Jf ⟨r,k⟩,Jf k]
      .rw[Jg (λq=>k q.2),Jg k]
     have K:g.getD x d=if s<=x then l.getD (x+(m-s)) d else l.getD x d:=by
      rw[n x];by_cases t:s<=x
      .rw[Jf ⟨t,o⟩,Jf t]
      .rw[Jg (λq=>t q.1),Jg t,Jg E4]
     rw[K,J];by_cases t:s<=x
     .rw[Jf t];by_cases k:y<e+m-s
      .rw[Jf k];exact U _ _ E4 E4 E4 E4
      .rw[Jg k];exact A _ _ E4 E4 V
     .rw[Jg t];by_cases k:y<e+m-s
      .rw[Jf k];exact z _ _ g1 E4 E4
      .rw[Jg k];exact T _ _ g1 E4 E4 V
    have L2:∀u,Fra d a e u g->EI d lt u a e->(Fra d a b (if e<e+m-s/\e+m-s<b then DI d lt f e (e+m-s) b u else u) l/\EI d lt (if e<e+m-s/\e+m-s<b then DI d lt f e (e+m-s) b u else u) a b):=λu w S2=>by
     have L:=Z.keep w (.inr (Jm _));have M:=A4.keep w (.inr E4);have be:=w.1.trans E;have R:∀B,Fra d e b B u->EI d lt B e b->Fra d a b B l/\EI d lt B a b:=λB v N=>by
      refine⟨((v.wide E4 (Jm _)).trans (w.wide (Jm _) E4)).trans F1,λi j g1 o r=> ?_⟩;by_cases t:j<e
      .rw[v.2 i E4,v.2 j E4];exact S2 i j g1 o t
      .by_cases k:e<=i
       .exact N i j k o r
       .rw[v.2 i E4];obtain⟨x,hx,K⟩:=w.3 i g1 E4;obtain⟨y,W,J⟩:=v.3 j E4 r;rw[K,J,w.2 y E4];exact X x y hx.1 hx.2 W.1 W.2
     by_cases c:e<e+m-s/\e+m-s<b
     .rw[Jf c];obtain⟨v,N⟩:=c8n f e (e+m-s) b u c.1 c.2 (by rw[be];exact C) E4 L M;exact R _ v N
     .rw[Jg c];refine R _ (Fra.refl _ _ _) ?_;by_cases k:e+m-s=e
      .rw[k]at M;exact M
      .have:e+m-s=b:=E4;rw[this]at L;exact L
    have Y:Fra d a e (if a<s/\s<e then DI d lt f a s e g else g) g/\EI d lt (if a<s/\s<e then DI d lt f a s e g else g) a e:=by
     by_cases c:a<s/\s<e
     .rw[Jf c];exact c8n f a s e g c.1 c.2 (by rw[E];omega) E4 H I
     .rw[Jg c];refine⟨Fra.refl _ _ _,?_⟩;by_cases k:s=a
      .rw[k]at I;exact I
      .have:s=e:=E4;rw[this]at H;exact H
    exact L2 _ Y.1 Y.2
def Bks(d:α)(lt:α->α->Bool)(l:List α)(b a n:Nat):Prop:=∀c,EI d lt l (a+c*b) (min (a+c*b+b) n)
omit tr as' in
theorem EI.sub{a b a' b':Nat}{l:List α}(h:EI d lt l a b)(ha:a<=a')(hb:b'<=b):EI d lt l a' b':=λi j h1 h2 h3=>h i j E4 h2 E4
theorem f2u{n:Nat}:∀(f a:Nat) (l:List α),n<=l.length->n<=a+f->Fra d a n (Kl d lt n f a l) l/\Bks d lt (Kl d lt n f a l) 20 a n
 |0,a,l,h,g=>by unfold Kl;exact⟨b8m h,λc=>EI.one E4⟩
 |f+1,a,l,h,g=>by
  unfold Kl;split
  .rename_i c;have F1:=b8m (d:=d) (lt:=lt) (a:=a) (b:=a+20) (l:=l) E4;have i:=c6n tr as' (d:=d) (a:=a) (b:=a+20) (l:=l) E4;obtain⟨e,j⟩:=f2u f (a+20) (FP d lt a (a+20) l) (by rw[F1.1];exact h) E4;refine⟨(e.wide E4 (Jm _)).trans (F1.wide (Jm _) E4),λk=> ?_⟩;cases k with
   |zero=>exact(i.keep e (.inl (Jm _))).sub E4 E4
   |succ k=>exact(j k).sub E4 E4
  .rename_i c;refine⟨b8m h,λk=> ?_⟩;exact(c6n tr as' h).sub E4 E4
theorem f3n{n b:Nat}(q:0<b):∀(f a:Nat) (l:List α),n<=l.length->n<=a+f->Bks d lt l b a n->Fra d a n (IM d lt n b f a l) l/\Bks d lt (IM d lt n b f a l) (2*b) a n
 |0,a,l,h,r,B=>by unfold IM;rw[Jg E4];exact⟨Fra.refl _ _ _,λc=>EI.one E4⟩
 |f+1,a,l,h,r,B=>by
  unfold IM;have e:=B 0;have i:=B 1;rw[Nat.zero_mul]at e;rw[Nat.one_mul]at i;by_cases c:a+2*b<=n
  .rw[Jf c];obtain⟨F1,j⟩:=c8n tr as' (d:=d) n a (a+b) (a+2*b) l E4 E4 E4 E4 (e.sub E4 E4) (i.sub E4 E4);obtain⟨o,s⟩:=f3n q f (a+2*b) (DI d lt n a (a+b) (a+2*b) l) (by rw[F1.1];exact h) E4 (λk=>by
    have g:a+2*b+k*b=a+(k+2)*b:=Gg;rw[g];exact(B (k+2)).keep F1 (.inr (by rw[<-g];omega)))
   refine⟨(o.wide E4 (Jm _)).trans (F1.wide (Jm _) E4),λk=> ?_⟩;cases k with
   |zero=>exact(j.keep o (.inl (Jm _))).sub E4 E4
   |succ k=>
    have g:a+(k+1)*(2*b)=a+2*b+k*(2*b):=Gg;rw[g];exact s k
  .rw[Jg c];by_cases m:a+b<n
   .rw[Jf m];obtain⟨F1,j⟩:=c8n tr as' (d:=d) n a (a+b) n l E4 m h E4 (e.sub E4 E4) (i.sub E4 E4);exact⟨F1,λk=>j.sub E4 E4⟩
   .rw[Jg m];exact⟨Fra.refl _ _ _,λk=>e.sub E4 E4⟩
theorem f3j{n:Nat}:∀(f a:Nat) (l:List α),0<a->n<=l.length->n<=a+f->Bks d lt l a 0 n->EI d lt (LY d lt n f a l) 0 n
 |0,a,l,c,h,e,B=>by have b:=B 0;rw[Nat.zero_mul]at b;exact b.sub E4 E4
 |f+1,a,l,c,h,e,B=>by
  unfold LY;split
  .obtain⟨F1,g⟩:=f3n tr as' (d:=d) c n 0 l h E4 B;exact f3j f (2*a) _ E4 (by rw[F1.1];exact h) E4 g
  .have b:=B 0;rw[Nat.zero_mul]at b;exact b.sub E4 E4
theorem d95(l:List α):EI d lt (LC d lt l) 0 l.length:=by unfold LC;obtain⟨F1,a⟩:=f2u tr as' (d:=d) l.length 0 l (Jm _) E4;exact f3j tr as' _ _ _ E4 (by rw[F1.1];exact Jm _) E4 a
end
section
variable{α:Type}{key:α->List Int}
abbrev JC(key:α->List Int)(l:List α):Prop:=l.Pairwise λa b=>AZ (key a) (key b)<0
theorem c4y:∀(l m:List α),JC key l->JC key m->(∀x,x∈l↔x∈m)->l=m
 | [],[],_,_,_=>rfl
 | [],y::m,_,_,h=>absurd ((h y).2 E6) E6
 |x::l,[],_,_,h=>absurd ((h x).1 E6) E6
 |x::l,y::m,c,d,h=>by
  rw[JC,Kz]at c d;have e:x=y:=by
   rcases Jt.1 ((h x).1 E6)with e|e
   .exact e
   .rcases Jt.1 ((h y).2 E6)with f|f
    .exact f.symm
    .have:=RD _ _ _ (d.1 x e) (c.1 y f);rw[Rv]at this;omega
  subst e;have g:∀{l:List α},(∀a∈l,AZ (key x) (key a)<0)->x∉l:=λi hx=>by have:=i x hx;rw[Rv]at this;omega
  rw[c4y l m c.2 d.2 λz=>⟨λb=>by
   rcases Jt.1 ((h z).1 (K8 _ b))with e|e
   .subst e;exact absurd b (g c.1)
   .exact e,λb=>by
   rcases Jt.1 ((h z).2 (K8 _ b))with e|e
   .subst e;exact absurd b (g d.1)
   .exact e⟩]
theorem f0e{l:List α}(d:(l.map key).Nodup):JC key (GY key l):=by have c:((GY key l).map key).Nodup:=(((Um key l).map key).nodup_iff).2 d;rw[List.Nodup,Kw]at c;refine((b11 key l).and c).imp λ{a b} h=> ?_;have h3:AZ (key a) (key b)≠0:=λe=>h.2 (NV _ _ e);have:=h.1;omega
theorem f8a{d:α}{l:List α}(h:∀i j,i<j->j<l.length->AZ (key (l.getD i d)) (key (l.getD j d))<0):JC key l:=by rw[JC,Kg];intro i j b a c;have:=h i j c a;rw[Jd,Jd,Je b,Je a]at this;exact this
end
theorem f55(L:List Stk):∀i,i<=L.length->(oF L i).map (·.1)=AY true [] (L.take i)
 |0,_=>rfl
 |i+1,h=>by
  have s:=f55 L i E4;have b:=(VJ (L:=L) i E4).2.1;rw[WR E4,b4t E4,<-s];generalize L.getD i AA.d=x;generalize oF L i=O at b;have g:∀j,((O.map (·.1)).getD j AA.d)=(O.getD j dO).1:=λj=>by rw[Jd,Jd,K1];cases O[j]?<;>rfl
  have gk:∀j,j<O.length->(kO O).getD j []=FM (O.getD j dO).1.c:=λj a=>by unfold kO;rw[Jd,Jd,K1,Je a];rfl
  cases hf:FZ O (FM x.c)with
  |some k=>
   obtain⟨m,n⟩:=VM hf;rw[So hf,List.map_set];have o:((O.map (·.1)).getD k AA.d).c=x.c:=by rw[g];exact b9v n
   have a:∀j,j<k->((O.map (·.1)).getD j AA.d).c≠x.c:=λj a e=>by
    rw[g]at e;rw[List.Nodup,Kg]at b;have hl:(kO O).length=O.length:=by unfold kO;rw[List.length_map]
    have:=b j k E4 E4 a;have q:=gk j E4;have r:=gk k m;rw[Jd,Je E4]at q r;refine this ?_;show (kO O)[j]=(kO O)[k];have f:(kO O)[j]=FM (O.getD j dO).1.c:=q;have l:(kO O)[k]=FM (O.getD k dO).1.c:=r;rw[f,l,e,n]
   rw[b47 _ k (by rw[Ke];exact m) a o,o,g];rfl
  |none=>
   rw[Sw hf,Mf];refine(Yb _ λj a e=> ?_).symm;rw[Ke]at a;rw[g]at e;refine c7h hf ?_;rw[<-e];unfold kO;refine Jx.2 ⟨O.getD j dO,?_,rfl⟩;rw[Jd,Je a];exact Kd a
theorem c5n{A:List Stk}(h:CK A):∀i,i<=A.length->AY true [] (A.take i)=A.take i
 |0,_=>rfl
 |i+1,hi=>by rw[b4t E4,c5n h i E4,IZ (d:=AA.d) (by omega:i<A.length)];refine Yb _ λj a e=>f1s h (by omega:i<A.length) ?_;rw[<-e];exact Jx.2 ⟨_,CY a,rfl⟩
theorem ov_mrg{A B:List Stk}(a:CK A):(oF (A++B) (A++B).length).map (·.1)=AY true A B:=by
 have e:=c5n a A.length (Jm _);rw[Lj]at e;rw[f55 _ _ (Jm _),Lj];have b:AY true [] (A++B)=AY true (AY true [] A) B:=by unfold AY;rw[List.foldl_append]
 rw[b,e]
theorem d5g{M:List Stk}(h:CK M):(M.map JT).Nodup:=by unfold CK at h;rw[List.Nodup,Kw]at h⊢;exact h.imp λb e=>b (b95 (a:=_) e)
theorem tt_up0:(r8.all λa=>r8.all λb=>decide ((tt a b<4)↔((a<4)↔(b<4))))=true:=Ft
theorem tt_up{a b:Int}(c:0<=a/\a<=7)(d:0<=b/\b<=7):tt a b<4↔(a<4↔b<4):=by have:=Jp.1 (Jp.1 tt_up0 a (Po c)) b (Po d);exact Kq this
def gv(m:Mv)(l:List Int):List Int:=if m.t<4 then l else l.reverse
def gS(m:Mv)(s:Stk):Stk:=⟨AV m s.c,gv m s.l⟩
def NZ(m:Mv)(P:Int->Mv)(i:Int):Mv:=BE (P i) m
theorem f3t{m:Mv}{l:List Int}{v:Int}:v∈gv m l↔v∈l:=by unfold gv;split<;>simp
theorem gv_nil{m:Mv}{l:List Int}(h:l≠[]):gv m l≠[]:=by unfold gv;split<;>simpa using h
theorem gv_nd{m:Mv}{l:List Int}(h:l.Nodup):(gv m l).Nodup:=by unfold gv;split;exact h;exact((List.reverse_perm _).nodup_iff).2 h
theorem f3i{m:Mv}{c:Cl}(a:CM m)(b:BH c):AV m (AV (ER m) c)=c/\BH (AV (ER m) c):=by refine⟨?_,Pk (Sv a) b⟩;rw[<-RQ (Sv a) a b,(YW a).2];exact c6z b
section
variable{p:Pt}{r m:Mv}{L L':List Stk}{P:Int->Mv}{B B':Int}
theorem d6e(a:CM m){c:Cl}(b:BH c):∀(L:List Stk),(∀s∈L,BH s.c)->AX (L.map (gS m)) (AV m c)=gv m (AX L c)
 | [],_=>by simp[XO,gv]
 |s::L,h=>by
  rw[L3,KM,KM,d6e a b L λt d=>h t (K8 _ d)];by_cases e:s.c=c
  .rw[Jf e,Jf (show (gS m s).c=AV m c by unfold gS;rw[e])];rfl
  .rw[Jg e,Jg (λq:(gS m s).c=AV m c=>e (Xp a (h s E6) b q))]
theorem b6g(f:CM m)(d:∀s∈L,BH s.c)(h:CK L):CK (L.map (gS m)):=by unfold CK at h⊢;rw[Lh];rw[List.Nodup,Kw]at h⊢;exact List.Pairwise.imp_of_mem (λ{a b} g i j e=>j (Xp f (d a g) (d b i) e)) h
theorem f1h(hs:AO p.W p.H=0)(G:PlcG p P)(a:CM m){i:Int}(hi:AR p i):AQ p (NZ m P) i=AV m (AQ p P i):=RQ (G.ok i hi).1 a (KH hs hi)
theorem f7j(hs:AO p.W p.H=0)(G:PlcG p P)(a:CM m){i e:Int}(hi:CN p i e):BQ p (NZ m P) i e=AV m (BQ p P i e):=RQ (G.ok i hi.1).1 a (UL (KH hs hi.1) hi.2.1)
theorem plc_mv(G:PlcG p P)(b:CM m)(c:MN m):PlcG p (NZ m P):=by
 refine⟨λi a=>⟨f8i (G.ok i a).1 b,d6p (G.ok i a).2 c⟩,λi e a d f=> ?_⟩;have:=G.cr i e a d f;unfold NZ;rw[this];split
 .rfl
 .exact RY GS (G.ok i a).1 b
theorem StG.mv(X:StG p r L P B)(g:CM m)(hp:MN m)(K:L'.Perm (L.map (gS m)))(lt:∀i j,i<j->j<L'.length->AZ (BC (L'.getD i AA.d).c) (BC (L'.getD j AA.d).c)<0)(bd:∀s∈L',(-B'<=s.c.x/\s.c.x<=B')/\ -B'<=s.c.y/\s.c.y<=B'):StG p (BE r m) L' (NZ m P) B':=by
 have hs:=X.hs;have hN:=CQ hs;have h0:AR p 0:=⟨M3 _,E4⟩
 have cN:=b6g g (λs h=>X.cQ h) X.cells;have hq:∀s∈L',BH s.c:=λs h=>by obtain⟨t,M,rfl⟩:=Jx.1 (K.mem_iff.1 h);exact Pk g (X.cQ M)
 have w:∀c,BH c->AX L' (AV m c)=gv m (AX L c):=λc hc=>by rw[<-(b2c cN K.symm (AV m c)).1];exact d6e g hc L λs h=>X.cQ h
 have LN:∀i,AR p i->AX L' (AQ p (NZ m P) i)=gv m (AX L (AQ p P i)):=λi f=>by rw[f1h hs X.G g f];exact w _ (KQ hs X.G f)
 have O:∀i e,CN p i e->AX L' (BQ p (NZ m P) i e)=gv m (AX L (BQ p P i e)):=λi e f=>by rw[f7j hs X.G g f];exact w _ (Pk (X.G.ok i f.1).1 (UL (KH hs f.1) f.2.1))
 have R:∀i e,CN p i e->BH (BQ p P i e):=λi e f=>Pk (X.G.ok i f.1).1 (UL (KH hs f.1) f.2.1);have C:∀i e j k,CN p i e->CN p j k->BQ p (NZ m P) i e=BQ p (NZ m P) j k->BQ p P i e=BQ p P j k:=λi e j k f F h=>by rw[f7j hs X.G g f,f7j hs X.G g F]at h;exact Xp g (R i e f) (R j k F) h
 have N:NcG p P (λc=>gv m (AX L c)):=by
  unfold gv;by_cases z:m.t<4
  .simp only[Jf z];exact X.N
  .simp only[Jg z];exact d63 hs X.hp X.G X.S X.N
 refine⟨X.hp,plc_mv X.G g hp,?_,λi f=> ?_,lt,λs h=> ?_,⟨λc=> ?_,λc v=> ?_⟩,⟨λi e j k f F Q kj H u=> ?_,λi e a k f l Q E H h1 o=> ?_,λa k b n l u E kb H h1 o T=> ?_⟩,λa k l E u=> ?_⟩
 .show BE (P 0) m=_;rw[X.r0]
 .have hv:=(X.S.mem (AQ p P i) i).2 ⟨f,rfl⟩;have U:i∈AX L' (AQ p (NZ m P) i):=by rw[LN i f];exact f3t.2 hv
  rcases RI L' (AQ p (NZ m P) i)with⟨s,h1,o⟩|h1
  .rw[<-o];exact bd s h1
  .rw[h1]at U;cases U
 .obtain⟨t,M,rfl⟩:=Jx.1 (K.mem_iff.1 h);exact gv_nil (X.ne t M)
 .by_cases hc:BH c
  .obtain⟨e,hq⟩:=f3i g hc;rw[<-e,w _ hq];exact gv_nd (X.S.nd _)
  .rw[Wm λh=>Ig];exact Na
 .by_cases hc:BH c
  .obtain⟨e,hq⟩:=f3i g hc;rw[<-e,w _ hq,f3t,X.S.mem];constructor
   .rintro⟨h1,o⟩;exact⟨h1,by rw[f1h hs X.G g h1,o]⟩
   .rintro⟨h1,o⟩;rw[f1h hs X.G g h1]at o;exact⟨h1,Xp g (KQ hs X.G h1) hq o⟩
  .rw[Wm λh=>Ig];constructor
   .intro h;cases h
   .rintro⟨h1,o⟩;rw[f1h hs X.G g h1]at o;exact absurd (o▸Pk g (KQ hs X.G h1)) hc
 .rw[LN i f.1]at u;rw[O i e f];exact N.pp i e j k f F Q kj (C _ _ _ _ f F H) u
 .rw[LN i f.1]at h1 o;exact N.pl i e a k f l Q E (C _ _ _ _ l f H) h1 o
 .rw[LN a l.1]at h1 o T;exact N.ll a k b n l u E kb (C _ _ _ _ l u H) h1 o T
 .rw[LN a l.1]at u;obtain⟨V,W⟩:=QH hs l;have ta:=(X.G.ok a l.1).1;have tb:=(X.G.ok (BA p a k) V.1).1;obtain⟨l1,l2,Y⟩:=PN hs X.G l.1 l.2.1 l.2.2 E;have I:(NZ m P (BA p a k)).t<4↔((P (BA p a k)).t<4↔m.t<4):=tt_up tb g;unfold gv at u;by_cases z:m.t<4
  .rw[Jf z]at u;have J:=X.D a k l E u;rw[J];by_cases A:(P (BA p a k)).t<4
   .rw[Jf A,Jf (I.2 ⟨λ_=>z,λ_=>A⟩)]
   .rw[Jg A,Jg λq=>A ((I.1 q).2 z)]
  .rw[Jg z]at u;have Z:=Om.1 u;rw[<-l1]at Z;have kn:BB p (BA p a k) k=BB p a k:=QP hs X.hp l;have J:=X.D (BA p a k) k V (by rw[kn];exact E) (by rw[W];exact Z);rw[kn,W]at J;rw[J];by_cases A:(P (BA p a k)).t<4
   .rw[Jg (Y.1 A),Jg λq=>z ((I.1 q).1 A)]
   .have h6:(P a).t<4:=by
     by_cases h7:(P a).t<4
     .exact h7
     .exact absurd (Y.2 h7) A
    rw[Jf h6,Jf (I.2 ⟨λq=>absurd q A,λq=>absurd q z⟩)]
theorem c7x{L:List Stk}(h:JC JT L):∀i j,i<j->j<L.length->AZ (BC (L.getD i AA.d).c) (BC (L.getD j AA.d).c)<0:=λi j b a=>by have:=Kg.1 h i j E4 a b;rw[Jd,Jd,Je a,Je (show i<L.length from E4)];exact this
end
end Go.Proofs.YtaihldljnlgnoaaGreatDoor.V
