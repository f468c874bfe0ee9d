/-
  Parts of the proof: Y18 T4 D21 D28 D29 D31. Conditions: none.
-/
import Derived.Test.YtaihldljnlgnoaaGreatDoorSkc5
import Derived.Test.YtaihldljnlgnoaaGreatDoorSkc7
import Derived.Test.YtaihldljnlgnoaaGreatDoorSkc9
import Derived.Test.YtaihldljnlgnoaaGreatDoorSkc10
import Derived.Test.YtaihldljnlgnoaaGreatDoorSkc11
import Derived.Test.YtaihldljnlgnoaaGreatDoorSkc12
set_option maxRecDepth 100000
set_option maxHeartbeats 40000000
namespace Go.Proofs.YtaihldljnlgnoaaGreatDoor.V
open Go
def DQ:RT (Int×Int×Int):=⟨3,λx=>[.int .u8 x.1,.int .u8 x.2.1,.int .u8 x.2.2],λl=>match l with
 | [.int _ a,.int _ b,.int _ c]=>(a,b,c)
 |_=>(0,0,0),(0,0,0),λ_=>rfl⟩
def GE(w h:Int)(l:List (Int×Int×Int)):List SV:=[.int .u8 w,.int .u8 h,.sl 3 l.length (DQ.row l) none]
def MQ(n:Int):Prop:=0<=n/\n<=255
def MI(w h:Int)(l:List (Int×Int×Int)):Prop:=MQ w/\MQ h/\∀f∈l,MQ f.1/\MQ f.2.1/\MQ f.2.2
def WM:SV->Option (Prop×Int×Int×List (Int×Int×Int))
 |.agg [.int .u8 w,.int .u8 h,x]=>(DQ.as x).map λq=>(DQ.isL q.1 q.2/\MI w h (DQ.lst q.1 q.2),w,h,DQ.lst q.1 q.2)
 |_=>none
theorem f4h{s:SV}{q:Prop}{w h:Int}{l:List (Int×Int×Int)}(k:WM s=some (q,w,h,l))(a:q):s.le2 (.agg (GE w h l))/\MI w h l:=by
 unfold WM at k;split at k
 .rename_i w' h' x;simp only[Ih]at k;obtain⟨v,b,rfl,rfl,rfl,rfl⟩:=k;refine⟨?_,a.2⟩;have:=DQ.as_leL b a.1;simp only[SV.le2,SV.le1,BM,GE];exact⟨E3,E3,this,Ja⟩
 .cases k
def stV(s:HU):SV:=.agg (EO s.1 s.2.1 s.2.2)
def kSOf:AK
 | [x]=>(WM x).map λq=>(q.1,stV (GK q.2.1 q.2.2.1 q.2.2.2))
 |_=>none
def FSOf:Fam:=⟨Int×Int×List (Int×Int×Int),λ(w,h,l)=>[.agg (GE w h l)],λ(w,h,l)=>MI w h l,λ(w,h,l)=>stV (GK w h l)⟩
def ISOf:Int×Int×List (Int×Int×Int)->Nat->Option Inv
 |(w,h,l),3=>some {β:=Nat×HU,ok:=λ(i,s)=>(i<=l.length/\i<=5)/\SOK s i/\((l.take 5).drop i).foldl IB s=GK w h l,st:=λ(i,s)=>⟨[⟨4,none,.int .i64 i⟩,⟨3,none,.own 2 0⟩,⟨2,none,.own 1 0⟩,⟨1,none,.own 0 0⟩],[.cells 24 (GE w h l),.cells 34 [.int .i64 0,.int .i64 0,.con (.slice none 0 0),.int .u8 0,.int .i64 0,.int .i64 0,.con (.slice none 0 0)],.cells 34 (EO s.1 s.2.1 s.2.2)]⟩,μ:=λ(i,_)=>l.length-i}
 |_,_=>none
theorem pSOf:PS 9 kSOf:=by
 refine con [(28,g1h),(29,d9q),(30,f8q)] (by simpa using⟨pFl28,pLn28,pFd28⟩) FSOf ISOf kSOf ?_ ?_ Tryz.func9 Dy Dy Dy ?_
 .intro args pre s h C;unfold kSOf at h;split at h
  .rename_i x;simp only[Ih]at h;obtain⟨⟨q,w,E,l⟩,hx,rfl,rfl⟩:=h;obtain⟨j,t⟩:=f4h hx C;exact⟨(w,E,l),⟨j,Ja⟩,t,rfl⟩
  .cases h
 .exact By
 .rintro⟨w,v,l⟩ ⟨⟨F,w2⟩,⟨G,v2⟩,H⟩;have hx:=g04 w v;have I:AP (1+w%4) (1+v%4)=0:=hx.g.hs;have J:=Jy (b:=4) F;have K:=Jy (b:=4) G;refine X0a _ ?_;(repeat' first|constructor|intro h)<;>refine Lm ?_
  all_goals(try simp only[J,K]at*)
  all_goals(try first
   |exact I
   |exact Ak)
  refine⟨((0:Nat),Wn w v),⟨⟨Jj _,Jj _⟩,hx,rfl⟩,?_,?_⟩
  .exact X2b
  .rintro⟨i,⟨p,r,L⟩⟩ m;replace m:(i<=l.length/\i<=5)/\SOK (p,r,L) i/\((l.take 5).drop i).foldl IB (p,r,L)=GK w v l:=m;obtain⟨⟨i1,u⟩,X,y⟩:=m;have hg:=X.g;have s4:=c2w (i:=i) u;have cq:=QF (X.prOK u) hg.stIn;have z:=(hg.places Dx).1;dsimp only at hg cq z;have M:∀a b c:Int,[a,b,c].getD (Int.toNat 0) 0=a:=λ_ _ _=>rfl;have N:∀a b c:Int,[a,b,c].getD (Int.toNat 1) 0=b:=λ_ _ _=>rfl;have O:∀a b c:Int,[a,b,c].getD (Int.toNat 2) 0=c:=λ_ _ _=>rfl;have A:i<l.length->MQ (l.getD i DQ.d).1/\MQ (l.getD i DQ.d).2.1/\MQ (l.getD i DQ.d).2.2:=λh=>H _ (CP h);have n:(¬(i<l.length/\i<5))\/CA (AO p r)=[]->(p,r,L)=GK w v l:=λh=>by
    rw[<-y];rcases h with h|h
    .rw[List.drop_eq_nil_of_le Ej];rfl
    .exact(c54 _ _ (show MV (p,r,L)=[]from h)).symm
   have Tv:i<l.length->i<5->((l.take 5).drop (i+1)).foldl IB (IB (p,r,L) (l.getD i DQ.d))=GK w v l:=λj t=>by rw[<-y,List.drop_eq_getElem_cons (i:=i) Ej];rw[M3,List.getElem_take,J5,J6 j];rfl
   refine X0b _ ?_;(repeat' first|constructor|intro h)<;>refine Lm ?_
   all_goals(try simp only[CI,RT.lst_row,Jo,JS,M,N,O,If,Ik]at*)
   all_goals(try first
    |exact⟨cq,z⟩
    |exact B8
    |(have q:=A Dx;unfold MQ at q;simp only[AD];omega))
   all_goals(try(
    have e:=n (by first|exact .inl Dx|exact .inr (Lj.1 Dx));rw[<-e];all_goals first|exact Ay))
   all_goals
    have o:i<l.length:=Dx;have P:i<5:=Dx;have B:MV (p,r,L)≠[]:=λe=>by have e2:(CA (AO p r)).length=0:=Mf List.length e;omega
    obtain⟨⟨F1,_⟩,⟨Q,_⟩,⟨R,_⟩⟩:=A o;have S:=Jy (b:=((CA (AO p r)).length:Int)) F1;have T:=Jy (b:=2) Q;have U:=Jy (b:=2) R;have m1:=Mc (l.getD i DQ.d).1 (b:=((CA (AO p r)).length:Int)) Dx;have m2:=M4 (l.getD i DQ.d).1 (b:=((CA (AO p r)).length:Int)) Dx;have V:=(d3n X).1 (c3j (s:=(p,r,L)) (a:=(l.getD i DQ.d).1) B);obtain⟨hK,hC⟩:=on_bd hg V;have W:IB (p,r,L) (l.getD i DQ.d)=Sd (p,r,L) (Tq (p,r,L) (l.getD i DQ.d).1).1 (Tq (p,r,L) (l.getD i DQ.d).1).2 ((l.getD i DQ.d).2.1%2) (decide ((l.getD i DQ.d).2.2%2=1)):=by unfold IB;rw[J8 B]
    have Y:=X.next (f:=l.getD i DQ.d) Dx;have Z:=Tv o P;simp only[S,T,U]
   all_goals first
    |exact B9
    |(refine⟨(i+1,IB (p,r,L) (l.getD i DQ.d)),⟨⟨o,by show i+1<=5;omega⟩,Y,Z⟩,by show l.length-(i+1)<l.length-i;omega,?_⟩
      rw[W];all_goals refine X0b _ ?_;(repeat' first|constructor|intro h)<;>refine Lm ?_
      all_goals first
       |exact Ay
       |skip)
    |skip
def Ua(a r:SV):AK
 | [x]=>some (x=a,r)
 |_=>none
def XV(a b r:SV):AK
 | [x,y]=>some (x=a/\y=b,r)
 |_=>none
theorem f4r{f:FuncId}{k:AK}{a r:SV}(h:PS f k)(e:∃q,k [a]=some (q,r)/\q):PS f (Ua a r):=XZ h λargs pre s b c=>by
 unfold Ua at b;split at b
 .cases b;subst c;exact e
 .cases b
theorem two_of{f:FuncId}{k:AK}{a b r:SV}(h:PS f k)(e:∃q,k [a,b]=some (q,r)/\q):PS f (XV a b r):=XZ h λargs pre s c d=>by
 unfold XV at c;split at c
 .cases c;obtain⟨rfl,rfl⟩:=d;exact e
 .cases c
def TV(xs:List SV)(r:SV):AK:=λa=>some (a=xs,r)
theorem f55{F:Fam}{f:FuncId}(hf:∃fn,Tryz.prog.funcs[f]?=some fn/\(fn.name== "runtime.NumGoroutine")=false/\fn.body.isNone=false)(h:∀i,F.pre i->PS f (TV (F.args i) (.bool true))):PS f (SB F):=⟨hf,λA w args vals pre s hA hg hD hk hp=>by
 unfold SB at hk;split at hk
 .rename_i Zj;obtain⟨i,hi,rfl⟩:=Zj;cases hk;exact(h i hi).2 A w _ vals _ _ hA hg hD rfl rfl
 .cases hk⟩
def F1(xs:List SV)(r:SV):Fam:=⟨Unit,λ_=>xs,λ_=>True,λ_=>r⟩
theorem law1{xs:List SV}{r:SV}(h:BT xs xs):RI (F1 xs r) (TV xs r):=λzs p s a b=>by unfold TV at a;cases a;subst b;exact⟨(),h,Ja,rfl⟩
theorem f57(w h:Int)(l:List (Int×Int×Int))(hx:MI w h l):∃q,WM (.agg (GE w h l))=some (q,w,h,l)/\q:=by
 have a:DQ.lst l.length (DQ.row l)=l:=RT.lst_row _ _;have b:∃q,WM (.agg (GE w h l))=some (q,w,h,DQ.lst l.length (DQ.row l))/\q:=⟨_,rfl,DQ.isL_row l,by rw[a];exact hx⟩
 rw[a]at b;exact b
theorem oSOf{w h:Int}{l:List (Int×Int×Int)}{p:Pt}{r:Mv}{L:List Stk}(hx:MI w h l)(e:GK w h l=(p,r,L)):PS 9 (Ua (.agg (GE w h l)) (.agg (EO p r L))):=f4r pSOf (by obtain⟨q,a,b⟩:=f57 w h l hx;refine⟨q,?_,b⟩;unfold kSOf;simp only[a,Kh,e];rfl)
section
variable{p:Pt}{r:Mv}{L:List Stk}
structure StS (p:Pt) (r:Mv) (L:List Stk):Prop where
 X:SOK (p,r,L) 5
 pr:prOK p r
 sn:EG L
 g:StG p r L (AL p r) 971
 ck:CO p r L=0
 bo:Bo p r=0
theorem f5c{w h:Int}{l:List (Int×Int×Int)}(e:GK w h l=(p,r,L)):StS p r L:=by have X:=sOf_ok w h l;rw[e]at X;have a:Pr 5=971:=E1;have g:=X.g;rw[a]at g;exact⟨X,X.prOK (Jf _),g.stIn,g,X.chk (Jf _),(g.places Dx).1⟩
end
section
variable{α:Type}{key:α->List Int}
abbrev MO(key:α->List Int)(l:List α):Prop:=l.Pairwise λa b=>BB (key a) (key b)<0
theorem d6c:∀(l m:List α),MO key l->MO key m->(∀x,x∈l↔x∈m)->l=m
 | [],[],_,_,_=>rfl
 | [],y::m,_,_,h=>absurd ((h y).2 Dz) Dz
 |x::l,[],_,_,h=>absurd ((h x).1 Dz) Dz
 |x::l,y::m,c,d,h=>by
  rw[MO,Kn]at c d;have e:x=y:=by
   rcases Ji.1 ((h x).1 Dz)with e|e
   .exact e
   .rcases Ji.1 ((h y).2 Dz)with f|f
    .exact f.symm
    .have:=VZ _ _ _ (d.1 x e) (c.1 y f);rw[VG]at this;omega
  subst e;have g:∀{l:List α},(∀a∈l,BB (key x) (key a)<0)->x∉l:=λi hx=>by have:=i x hx;rw[VG]at this;omega
  rw[d6c l m c.2 d.2 λz=>⟨λb=>by
   rcases Ji.1 ((h z).1 (Ju _ b))with e|e
   .subst e;exact absurd b (g c.1)
   .exact e,λb=>by
   rcases Ji.1 ((h z).2 (Ju _ b))with e|e
   .subst e;exact absurd b (g d.1)
   .exact e⟩]
theorem c82{l:List α}(d:(l.map key).Nodup):MO key (GR key l):=by have c:((GR key l).map key).Nodup:=(((Ss key l).map key).nodup_iff).2 d;rw[List.Nodup,L2]at c;refine((b12 key l).and c).imp λ{a b} h=> ?_;have h3:BB (key a) (key b)≠0:=λe=>h.2 (Pz _ _ e);have:=h.1;omega
theorem d9y{d:α}{l:List α}(h:∀i j,i<j->j<l.length->BB (key (l.getD i d)) (key (l.getD j d))<0):MO key l:=by rw[MO,Kg];intro i j b a c;have:=h i j c a;rw[J5,J5,J6 b,J6 a]at this;exact this
end
theorem f5f(L:List Stk):∀i,i<=L.length->(oF L i).map (·.1)=AX true [] (L.take i)
 |0,_=>rfl
 |i+1,h=>by
  have s:=f5f L i Dx;have b:=(VF (L:=L) i Dx).2.1;rw[WV Dx,b4x Dx,<-s];generalize L.getD i AA.d=x;generalize oF L i=O at b;have g:∀j,((O.map (·.1)).getD j AA.d)=(O.getD j dO).1:=λj=>by rw[J5,J5,Jz];cases O[j]?<;>rfl
  have gk:∀j,j<O.length->(kO O).getD j []=FH (O.getD j dO).1.c:=λj a=>by unfold kO;rw[J5,J5,Jz,J6 a];rfl
  cases hf:FW O (FH x.c)with
  |some k=>
   obtain⟨m,n⟩:=VK hf;rw[Sh hf,List.map_set];have o:((O.map (·.1)).getD k AA.d).c=x.c:=by rw[g];exact b9q n
   have a:∀j,j<k->((O.map (·.1)).getD j AA.d).c≠x.c:=λj a e=>by
    rw[g]at e;rw[List.Nodup,Kg]at b;have hl:(kO O).length=O.length:=by unfold kO;rw[List.length_map]
    have:=b j k Dx Dx a;have q:=gk j Dx;have r:=gk k m;rw[J5,J6 Dx]at q r;refine this ?_;show (kO O)[j]=(kO O)[k];have f:(kO O)[j]=FH (O.getD j dO).1.c:=q;have l:(kO O)[k]=FH (O.getD k dO).1.c:=r;rw[f,l,e,n]
   rw[b48 _ k (by rw[K8];exact m) a o,o,g];rfl
  |none=>
   rw[Sp hf,Lq];refine(YR _ λj a e=> ?_).symm;rw[K8]at a;rw[g]at e;refine c7n hf ?_;rw[<-e];unfold kO;refine Js.2 ⟨O.getD j dO,?_,rfl⟩;rw[J5,J6 a];exact Kb a
theorem c5r{A:List Stk}(h:DC A):∀i,i<=A.length->AX true [] (A.take i)=A.take i
 |0,_=>rfl
 |i+1,hi=>by rw[b4x Dx,c5r h i Dx,IE (d:=AA.d) (by omega:i<A.length)];refine YR _ λj a e=>f22 h (by omega:i<A.length) ?_;rw[<-e];exact Js.2 ⟨_,CP a,rfl⟩
theorem ov_mrg{A B:List Stk}(a:DC A):(oF (A++B) (A++B).length).map (·.1)=AX true A B:=by
 have e:=c5r a A.length (Jf _);rw[L8]at e;rw[f5f _ _ (Jf _),L8];have b:AX true [] (A++B)=AX true (AX true [] A) B:=by unfold AX;rw[List.foldl_append]
 rw[b,e]
theorem d5x{M:List Stk}(h:DC M):(M.map IV).Nodup:=by unfold DC at h;rw[List.Nodup,L2]at h⊢;exact h.imp λb e=>b (b92 (a:=_) e)
theorem c6u(A B:List Stk):Ao (A++B)=Ao A++Ao B:=by unfold Ao;rw[List.flatMap_append]
theorem StG.pos{p:Pt}{r:Mv}{L:List Stk}{P:Int->Mv}{B:Int}(X:StG p r L P B):0<L.length:=by
 have hN:=CF X.hs;have h:=(X.flat_mem 0).2 ⟨Lx _,Dx⟩;cases L with
 |nil=>simp[Ao]at h
 |cons s L=>simp
theorem tt_up0:(r8.all λa=>r8.all λb=>decide ((tt a b<4)↔((a<4)↔(b<4))))=true:=Fw
theorem tt_up{a b:Int}(c:0<=a/\a<=7)(d:0<=b/\b<=7):tt a b<4↔(a<4↔b<4):=by have:=Je.1 (Je.1 tt_up0 a (Pi c)) b (Pi d);exact Kj this
def gv(m:Mv)(l:List Int):List Int:=if m.t<4 then l else l.reverse
def gS(m:Mv)(s:Stk):Stk:=⟨BE m s.c,gv m s.l⟩
def Of(m:Mv)(P:Int->Mv)(i:Int):Mv:=DN (P i) m
theorem f41{m:Mv}{l:List Int}{v:Int}:v∈gv m l↔v∈l:=by unfold gv;split<;>simp
theorem gv_nil{m:Mv}{l:List Int}(h:l≠[]):gv m l≠[]:=by unfold gv;split<;>simpa using h
theorem gv_nd{m:Mv}{l:List Int}(h:l.Nodup):(gv m l).Nodup:=by unfold gv;split;exact h;exact((List.reverse_perm _).nodup_iff).2 h
theorem f3u{m:Mv}{c:Cl}(a:EE m)(b:CD c):BE m (BE (PZ m) c)=c/\CD (BE (PZ m) c):=by refine⟨?_,QR (d7y a) b⟩;rw[<-SN (d7y a) a b,(c4h a).2];exact d3q b
section
variable{p:Pt}{r m:Mv}{L L':List Stk}{P:Int->Mv}{B B':Int}
theorem f58(a:EE m){c:Cl}(b:CD c):∀(L:List Stk),(∀s∈L,CD s.c)->AY (L.map (gS m)) (BE m c)=gv m (AY L c)
 | [],_=>by simp[XN,gv]
 |s::L,h=>by
  rw[Kr,LN,LN,f58 a b L λt d=>h t (Ju _ d)];by_cases e:s.c=c
  .rw[J7 e,J7 (show (gS m s).c=BE m c by unfold gS;rw[e])];rfl
  .rw[J8 e,J8 (λq:(gS m s).c=BE m c=>e (Xl a (h s Dz) b q))]
theorem c2n(f:EE m)(d:∀s∈L,CD s.c)(h:DC L):DC (L.map (gS m)):=by unfold DC at h⊢;rw[Mq];rw[List.Nodup,L2]at h⊢;exact List.Pairwise.imp_of_mem (λ{a b} g i j e=>j (Xl f (d a g) (d b i) e)) h
theorem Yo(hs:AP p.W p.H=0)(G:PlcG p P)(a:EE m){i:Int}(hi:AQ p i):AR p (Of m P) i=BE m (AR p P i):=SN (G.ok i hi).1 a (KF hs hi)
theorem f7v(hs:AP p.W p.H=0)(G:PlcG p P)(a:EE m){i e:Int}(hi:CL p i e):BO p (Of m P) i e=BE m (BO p P i e):=SN (G.ok i hi.1).1 a (UM (KF hs hi.1) hi.2.1)
theorem plc_mv(G:PlcG p P)(b:EE m)(c:OC m):PlcG p (Of m P):=by
 refine⟨λi a=>⟨f8t (G.ok i a).1 b,d70 (G.ok i a).2 c⟩,λi e a d f=> ?_⟩;have:=G.cr i e a d f;unfold Of;rw[this];split
 .rfl
 .exact UL JH (G.ok i a).1 b
theorem StG.mv(X:StG p r L P B)(g:EE m)(hp:OC m)(K:L'.Perm (L.map (gS m)))(lt:∀i j,i<j->j<L'.length->BB (BP (L'.getD i AA.d).c) (BP (L'.getD j AA.d).c)<0)(bd:∀s∈L',(-B'<=s.c.x/\s.c.x<=B')/\ -B'<=s.c.y/\s.c.y<=B'):StG p (DN r m) L' (Of m P) B':=by
 have hs:=X.hs;have hN:=CF hs;have h0:AQ p 0:=⟨Lx _,Dx⟩
 have cN:=c2n g (λs h=>X.cQ h) X.cells;have hq:∀s∈L',CD s.c:=λs h=>by obtain⟨t,M,rfl⟩:=Js.1 (K.mem_iff.1 h);exact QR g (X.cQ M)
 have w:∀c,CD c->AY L' (BE m c)=gv m (AY L c):=λc hc=>by rw[<-(b56 cN K.symm (BE m c)).1];exact f58 g hc L λs h=>X.cQ h
 have LK:∀i,AQ p i->AY L' (AR p (Of m P) i)=gv m (AY L (AR p P i)):=λi f=>by rw[Yo hs X.G g f];exact w _ (LA hs X.G f)
 have O:∀i e,CL p i e->AY L' (BO p (Of m P) i e)=gv m (AY L (BO p P i e)):=λi e f=>by rw[f7v hs X.G g f];exact w _ (QR (X.G.ok i f.1).1 (UM (KF hs f.1) f.2.1))
 have R:∀i e,CL p i e->CD (BO p P i e):=λi e f=>QR (X.G.ok i f.1).1 (UM (KF hs f.1) f.2.1);have C:∀i e j k,CL p i e->CL p j k->BO p (Of m P) i e=BO p (Of m P) j k->BO p P i e=BO p P j k:=λi e j k f F h=>by rw[f7v hs X.G g f,f7v hs X.G g F]at h;exact Xl g (R i e f) (R j k F) h
 have N:NcG p P (λc=>gv m (AY L c)):=by
  unfold gv;by_cases z:m.t<4
  .simp only[J7 z];exact X.N
  .simp only[J8 z];exact d6j hs X.hp X.G X.S X.N
 refine⟨X.hp,plc_mv X.G g hp,?_,λi f=> ?_,lt,λs h=> ?_,⟨λc=> ?_,λc v=> ?_⟩,⟨λi e j k f F Q kj H u=> ?_,λi e a k f l Q E H h1 o=> ?_,λa k b n l u E kb H h1 o T=> ?_⟩,λa k l E u=> ?_⟩
 .show DN (P 0) m=_;rw[X.r0]
 .have hv:=(X.S.mem (AR p P i) i).2 ⟨f,rfl⟩;have U:i∈AY L' (AR p (Of m P) i):=by rw[LK i f];exact f41.2 hv
  rcases RC L' (AR p (Of m P) i)with⟨s,h1,o⟩|h1
  .rw[<-o];exact bd s h1
  .rw[h1]at U;cases U
 .obtain⟨t,M,rfl⟩:=Js.1 (K.mem_iff.1 h);exact gv_nil (X.ne t M)
 .by_cases hc:CD c
  .obtain⟨e,hq⟩:=f3u g hc;rw[<-e,w _ hq];exact gv_nd (X.S.nd _)
  .rw[b42 λh=>I9];exact N6
 .by_cases hc:CD c
  .obtain⟨e,hq⟩:=f3u g hc;rw[<-e,w _ hq,f41,X.S.mem];constructor
   .rintro⟨h1,o⟩;exact⟨h1,by rw[Yo hs X.G g h1,o]⟩
   .rintro⟨h1,o⟩;rw[Yo hs X.G g h1]at o;exact⟨h1,Xl g (LA hs X.G h1) hq o⟩
  .rw[b42 λh=>I9];constructor
   .intro h;cases h
   .rintro⟨h1,o⟩;rw[Yo hs X.G g h1]at o;exact absurd (o▸QR g (LA hs X.G h1)) hc
 .rw[LK i f.1]at u;rw[O i e f];exact N.pp i e j k f F Q kj (C _ _ _ _ f F H) u
 .rw[LK i f.1]at h1 o;exact N.pl i e a k f l Q E (C _ _ _ _ l f H) h1 o
 .rw[LK a l.1]at h1 o T;exact N.ll a k b n l u E kb (C _ _ _ _ l u H) h1 o T
 .rw[LK a l.1]at u;obtain⟨V,W⟩:=PN hs l;have ta:=(X.G.ok a l.1).1;have tb:=(X.G.ok (Al p a k) V.1).1;obtain⟨l1,l2,Y⟩:=PG hs X.G l.1 l.2.1 l.2.2 E;have I:(Of m P (Al p a k)).t<4↔((P (Al p a k)).t<4↔m.t<4):=tt_up tb g;unfold gv at u;by_cases z:m.t<4
  .rw[J7 z]at u;have J:=X.D a k l E u;rw[J];by_cases A:(P (Al p a k)).t<4
   .rw[J7 A,J7 (I.2 ⟨λ_=>z,λ_=>A⟩)]
   .rw[J8 A,J8 λq=>A ((I.1 q).2 z)]
  .rw[J8 z]at u;have Z:=Og.1 u;rw[<-l1]at Z;have kn:AZ p (Al p a k) k=AZ p a k:=QG hs X.hp l;have J:=X.D (Al p a k) k V (by rw[kn];exact E) (by rw[W];exact Z);rw[kn,W]at J;rw[J];by_cases A:(P (Al p a k)).t<4
   .rw[J8 (Y.1 A),J8 λq=>z ((I.1 q).1 A)]
   .have h6:(P a).t<4:=by
     by_cases h7:(P a).t<4
     .exact h7
     .exact absurd (Y.2 h7) A
    rw[J7 h6,J7 (I.2 ⟨λq=>absurd q A,λq=>absurd q z⟩)]
theorem c87{L:List Stk}(h:MO IV L):∀i j,i<j->j<L.length->BB (BP (L.getD i AA.d).c) (BP (L.getD j AA.d).c)<0:=λi j b a=>by have:=Kg.1 h i j Dx a b;rw[J5,J5,J6 a,J6 (show i<L.length from Dx)];exact this
end
theorem d3f{n:Int}{L:List Stk}(f:∀s∈L,EC s.c.x s.c.y s.c.q=0)(lt:MO IV L)(g:∀s∈L,s.l≠[])(j:∀s∈L,∀v∈s.l,0<=v/\v<n):¬(List.range L.length).any (IZ n L)=true:=λa=>by
 obtain⟨i,k,a⟩:=Jp.1 a;have e:=Ka.1 k;have b:=CP (d:=AA.d) e;unfold IZ at a;have m:=f _ b;have o:(decide (0<(i:Int))&&decide (0<=FQ (L.getD ((i:Int)-1).toNat AA.d).c.x (L.getD ((i:Int)-1).toNat AA.d).c.y (L.getD ((i:Int)-1).toNat AA.d).c.q (L.getD i AA.d).c.x (L.getD i AA.d).c.y (L.getD i AA.d).c.q))=false:=by
  by_cases h0:0<i
  .have:=c87 lt ((i:Int)-1).toNat i Dx e;rw[<-Sw]at this;rw[Bool.and_eq_false_iff];right;exact Jq Dx
  .rw[Jq Dx];rfl
 have r:decide (((L.getD i AA.d).l.length:Int)=0)=false:=Jq λh=>g _ b (Kv Dx);have t:(L.getD i AA.d).l.any (Ll n)=false:=by rw[Jx];intro v u;have:=j _ b v u;unfold Ll;rw[Kd,Jh,Jh];omega
 rw[m,o,r,t]at a;simp at a
theorem d98{p:Pt}{r:Mv}{L:List Stk}{e:Int}(b:Bo p r=0)(h:HE p.W p.H L=e)(a:¬e=0):CO p r L=e:=by
 have:CX p r L=e:=by unfold CX;rw[if_pos b,if_neg (by rw[h];exact a),h]
 unfold CO;rw[J7 (by rw[this];exact a),this]
theorem f2z{p:Pt}{r:Mv}{L:List Stk}(a:Bo p r=0)(h:HE p.W p.H L=0)(b:L.any (QN (CC p r))=true):CO p r L=6:=by
 have:CX p r L=6:=by unfold CX;rw[if_pos a,if_pos h,if_pos b]
 unfold CO;rw[J7 (by rw[this];decide),this]
theorem SL{A B:List Stk}{s:Stk}:Ao (A++s::B)=Ao A++(s.l++Ao B):=by unfold Ao;rw[List.flatMap_append,List.flatMap_cons]
section
variable{p:Pt}{r:Mv}{A B C:List Stk}{s t:Stk}{b:Int}
theorem StG.clOK{L:List Stk}(X:StG p r L (AL p r) b)(hb:b<=4000):∀s∈L,EC s.c.x s.c.y s.c.q=0:=λs hs=>by have a:=X.cQ hs;have s4:=X.cB hs;unfold CD at a;unfold EC;rw[J7 Dx]
theorem StG.idIn{L:List Stk}(X:StG p r L (AL p r) b):∀s∈L,∀v∈s.l,0<=v/\v<DS p.W p.H:=λs hs v a=>by have:=(X.inSt hs a).1;unfold DS;rw[J7 X.hs];exact this
theorem StG.flen{L:List Stk}(X:StG p r L (AL p r) b):((Ao L).length:Int)=DS p.W p.H:=by have hN:=CF X.hs;have h1:=X.flat_len;have h2:=d21 (AG p.W p.H) (Ao L) λx a h3=>(X.flat_mem x).2 ⟨a,Dx⟩;unfold DS;rw[J7 X.hs];omega
theorem st_e{W H:Int}{L:List Stk}{e:Int}(hs:AP W H=0)(a:¬(List.range L.length).any (IZ (DS W H) L)=true)(h:(if JN (Ao L)=true then(8:Int)else if((Ao L).length:Int)<DS W H then 6 else 0)=e):HE W H L=e:=by unfold HE;rw[J7 hs,J8 a];exact h
theorem f3y(X:StG p r (A++s::B) (AL p r) b)(g:b<=4000){v:Int}{l:List Int}(i:s.l=v::l):CO p r (if l=[]then A++B else A++⟨s.c,l⟩::B)=6:=by
 have m:=(X.places g).1;have lt:MO IV (A++s::B):=d9y X.lt;have j:Ao (A++s::B)=Ao A++(v::l++Ao B):=by rw[SL,i]
 have n:Ao (if l=[]then A++B else A++⟨s.c,l⟩::B)=Ao A++(l++Ao B):=by
  split
  .rename_i e;subst e;exact c6u A B
  .exact SL
 have d:List.Sublist (Ao A++(l++Ao B)) (Ao (A++s::B)):=by rw[j];exact(List.Sublist.refl _).append ((List.sublist_cons_self v l).append (List.Sublist.refl _))
 have k:=X.flen;rw[j]at k;refine d98 m (st_e X.hs ?_ ?_) E1
 .have hm:∀t∈(if l=[]then A++B else A++⟨s.c,l⟩::B),t.l≠[]/\∃u∈A++s::B,u.c=t.c/\∀x∈t.l,x∈u.l:=λt a=>by
   by_cases e:l=[]
   .rw[J7 e]at a;have hm:t∈A++s::B:=by
     rcases Jt.1 a with h|h
     .exact Lv _ h
     .exact M1 _ (Ju _ h)
    exact D1
   .rw[J8 e]at a;rcases Jt.1 a with h|h
    .have hm:t∈A++s::B:=Lv _ h;exact D1
    .rcases Ji.1 h with rfl|h
     .exact⟨e,s,Dz,rfl,λx hx=>by rw[i];exact Ju _ hx⟩
     .have hm:t∈A++s::B:=M1 _ (Ju _ h);exact D1
  refine d3f (λt a=> ?_) ?_ (λt a=>(hm t a).1) λt a x hx=> ?_
  .obtain⟨_,u,f,e,_⟩:=hm t a;rw[<-e];exact X.clOK g u f
  .split
   .exact lt.sublist ((List.Sublist.refl A).append (List.sublist_cons_self s B))
   .have hk:∀(x y:Stk),x.c=y.c->IV x=IV y:=λx y e=>by unfold IV;rw[e]
    rw[MO,List.pairwise_append,Kn]at lt⊢;exact⟨lt.1,⟨λy hy=>lt.2.1.1 y hy,lt.2.1.2⟩,λx hx y hy=>by
     rcases Ji.1 hy with rfl|hy
     .exact lt.2.2 x hx s Dz
     .exact lt.2.2 x hx y Ex⟩
  .obtain⟨_,u,f,_,o⟩:=hm t a;exact X.idIn u f x (o x hx)
 .rw[n,c7s (X.flat_nd.sublist d),J8 E1,J7];simp only[K5,Kt]at k⊢;omega
theorem spoil1(X:StG p r (A++s::B) (AL p r) b)(d:b<=4000){v:Int}(e:t∈A++B)(f:v∈t.l):CO p r (A++⟨s.c,s.l++[v]⟩::B)=8:=by
 have i:=(X.places d).1;have lt:MO IV (A++s::B):=d9y X.lt;have hm:∀t∈A++s::B,t∈A\/t=s\/t∈B:=λt e=>by
  rcases Jt.1 e with h|h
  .exact .inl h
  .rcases Ji.1 h with h|h
   .exact .inr (.inl h)
   .exact .inr (.inr h)
 have j:t∈A++s::B:=by
  rcases Jt.1 e with h|h
  .exact Lv _ h
  .exact M1 _ (Ju _ h)
 refine d98 i (st_e X.hs ?_ ?_) E1
 .refine d3f (λu a=> ?_) ?_ (λu a=> ?_) λu a x hx=> ?_
  .rcases Jt.1 a with h|h
   .exact X.clOK d u (Lv _ h)
   .rcases Ji.1 h with rfl|h
    .exact X.clOK d s Dz
    .exact X.clOK d u (M1 _ (Ju _ h))
  .rw[MO,List.pairwise_append,Kn]at lt⊢;exact⟨lt.1,⟨λy hy=>lt.2.1.1 y hy,lt.2.1.2⟩,λx hx y hy=>by
    rcases Ji.1 hy with rfl|hy
    .exact lt.2.2 x hx s Dz
    .exact lt.2.2 x hx y Ex⟩
  .rcases Jt.1 a with h|h
   .exact X.ne u (Lv _ h)
   .rcases Ji.1 h with rfl|h
    .simp
    .exact X.ne u (M1 _ (Ju _ h))
  .rcases Jt.1 a with h|h
   .exact X.idIn u (Lv _ h) x hx
   .rcases Ji.1 h with rfl|h
    .rcases Jt.1 hx with hx|hx
     .exact X.idIn s Dz x hx
     .simp only[Jw]at hx;rw[hx];exact X.idIn t j v f
    .exact X.idIn u (M1 _ (Ju _ h)) x hx
 .rw[J7];cases hd:JN (Ao (A++⟨s.c,s.l++[v]⟩::B))with
  |true=>rfl
  |false=>
   have g:=b66 hd;rw[SL]at g;obtain⟨n1,k,m⟩:=Mm.1 g;rcases Jt.1 e with h|h
   .exact absurd rfl (m v (Mi.2 ⟨t,h,f⟩) v Dz)
   .exact absurd rfl ((Mm.1 k).2.2 v Dz v (Mi.2 ⟨t,h,f⟩))
theorem bad_at{n:Int}{L:List Stk}{i:Nat}(hi:i<L.length)(h:IZ n L i=true):(List.range L.length).any (IZ n L)=true:=Jp.2 ⟨i,Ka.2 hi,h⟩
theorem d4x:(A++s::B).getD A.length AA.d=s:=by rw[J5,Jm (Jf _),Kw];rfl
theorem f3j{W H:Int}{L:List Stk}(hs:AP W H=0){i:Nat}(hi:i<L.length)(h:IZ (DS W H) L i=true):HE W H L=1:=by unfold HE;rw[J7 hs,J7 (bad_at hi h)]
theorem spoil2(X:StG p r (A++s::B) (AL p r) b)(a:b<=4000):CO p r (A++⟨s.c,s.l++[4*p.W*p.H]⟩::B)=1:=by refine d98 (X.places a).1 (f3j X.hs (i:=A.length) Dz ?_) E1;unfold IZ;rw[d4x,Kd];right;refine Jp.2 ⟨4*p.W*p.H,Dz,?_⟩;unfold Ll DS;rw[J7 X.hs,Kd];right;exact Jr (Lx _)
theorem spoil5(X:StG p r (A++s::B) (AL p r) b)(a:b<=4000):CO p r (A++⟨⟨s.c.x,s.c.y,4⟩,s.l⟩::B)=1:=by
 refine d98 (X.places a).1 (f3j X.hs (i:=A.length) Dz ?_) E1;unfold IZ;rw[d4x];have:¬EC s.c.x s.c.y 4=0:=by unfold EC;rw[J8 Dx];decide
 rw[Jq this];rfl
theorem f4u{L:List Stk}(g:Bo p r=0)(i:0<=r.t){P:Int->Mv}{j:List Stk}(X:StG p r j P b)(f:b<=4000){u:Stk}{v:Int}(k:u∈L)(m:v∈u.l)(a:AQ p v)(n:AR p P v≠u.c):L.any (QN (CC p r))=true:=by have hs:=X.hs;have hN:=CF hs;have o:=Oy i g;refine Jp.2 ⟨u,k,Jp.2 ⟨v,m,?_⟩⟩;unfold AQ at a;have q:((v.toNat:Nat):Int)=v:=Dx;have e:=(o.im v.toNat Dx).1;rw[q]at e;have s:=X.vm f a;have w:(BC p r).getD v.toNat AE.d=P v:=(X.places f).2 v a;have hw:=PH hs a.1 a.2;rw[w,Ut s.1 Dx]at e;unfold NT;rw[e,Bool.not_eq_true',Lc];exact n
theorem spoil3(X:StG p r (A++s::(B++t::C)) (AL p r) b)(i:b<=4000):CO p r (A++⟨s.c,t.l⟩::(B++⟨t.c,s.l⟩::C))=6:=by
 have n:=(X.places i).1;have z:0<=r.t:=by have g:=CF X.hs;rw[<-X.r0];exact(X.G.ok 0 ⟨Lx _,Dx⟩).1.1
 have lt:MO IV (A++s::(B++t::C)):=d9y X.lt;have o:s∈A++s::(B++t::C):=Dz;have j:t∈A++s::(B++t::C):=Dz;have q:(Ao (A++⟨s.c,t.l⟩::(B++⟨t.c,s.l⟩::C))).Perm (Ao (A++s::(B++t::C))):=by
  simp only[c6u,show∀(x:Stk) (M:List Stk),Ao (x::M)=x.l++Ao M from λ_ _=>rfl];refine List.Perm.append_left _ ?_;have k:∀a b c:List Int,(a++(b++c)).Perm (b++(a++c)):=λa b c=>by rw[<-Ma,<-Ma];exact List.Perm.append_right _ List.perm_append_comm
  refine(List.Perm.append_left _ (k _ _ _)).trans ((k _ _ _).trans ?_);exact List.Perm.append_left _ (k _ _ _)
 have E:HE p.W p.H (A++⟨s.c,t.l⟩::(B++⟨t.c,s.l⟩::C))=0:=by
  have m:∀u∈A++⟨s.c,t.l⟩::(B++⟨t.c,s.l⟩::C),(∃w∈A++s::(B++t::C),w.c=u.c)/\∃w∈A++s::(B++t::C),w.l=u.l:=λu d=>by
   rcases Jt.1 d with h|h
   .exact D2
   .rcases Ji.1 h with rfl|h
    .exact⟨⟨s,o,rfl⟩,t,j,rfl⟩
    .rcases Jt.1 h with h|h
     .exact D2
     .rcases Ji.1 h with rfl|h
      .exact⟨⟨t,j,rfl⟩,s,o,rfl⟩
      .exact D2
  refine st_e X.hs (d3f (λu d=> ?_) ?_ (λu d=> ?_) λu d x hx=> ?_) ?_
  .obtain⟨w,f,e⟩:=(m u d).1;rw[<-e];exact X.clOK i w f
  .have e:(A++(⟨s.c,t.l⟩:Stk)::(B++⟨t.c,s.l⟩::C)).map IV=(A++s::(B++t::C)).map IV:=by
    simp only[Lq,Kr];rfl
   have y:((A++s::(B++t::C)).map IV).Pairwise λa b=>BB a b<0:=L2.2 lt;rw[<-e]at y;exact L2.1 y
  .obtain⟨w,f,e⟩:=(m u d).2;rw[<-e];exact X.ne w f
  .obtain⟨w,f,e⟩:=(m u d).2;rw[<-e]at hx;exact X.idIn w f x hx
  .have F:=X.flen;rw[<-q.length_eq]at F;rw[c7s (q.nodup_iff.2 X.flat_nd),J8 E1,J8 Dx]
 refine f2z n E ?_;obtain⟨v,I,J,K⟩:=X.one j;refine f4u n z X i (u:=⟨s.c,t.l⟩) (v:=v) Dz I J ?_;rw[K];intro e;have g:=X.cells;unfold DC at g;simp only[Lq,Kr]at g;have:=(Mm.1 g).2.1;rw[L5]at this;exact this.1 (by rw[<-e];simp)
theorem spoil4{L:List Stk}(X:StG p r L (AL p r) b)(hb:b<=3900):CO p ⟨r.t,r.x+2,r.y⟩ L=6:=by
 have hs:=X.hs;have hN:=CF hs;have k:AQ p 0:=⟨Lx _,Dx⟩
 have a:=(X.G.ok 0 k).1;rw[X.r0]at a;have d:EE (⟨0,2,0⟩:Mv):=by unfold EE;simp
 have l:=c2n d (λs h=>X.cQ h) X.cells;have f:=Ss IV (L.map (gS ⟨0,2,0⟩));have Y:=X.mv (B':=b+2) d (by unfold OC;simp) f (c87 (c82 (d5x l))) λs h=>by
  obtain⟨t,m,rfl⟩:=Js.1 (f.mem_iff.1 h);have:=X.cB m;show (-(b+2)<=(sq 0 t.c.x t.c.y).1+2/\(sq 0 t.c.x t.c.y).1+2<=b+2)/\ -(b+2)<=(sq 0 t.c.x t.c.y).2+0/\(sq 0 t.c.x t.c.y).2+0<=b+2;have e:sq 0 t.c.x t.c.y=(t.c.x,t.c.y):=by simp[sq]
  rw[e];dsimp only;omega
 have n:DN r ⟨0,2,0⟩=⟨r.t,r.x+2,r.y⟩:=by obtain⟨t,x,y⟩:=r;unfold EE at a;rcases LC a with h|h|h|h|h|h|h|h<;>(simp only at h;subst h;simp[DN,tt,tt.tbl,tb,AM])
 rw[n]at Y;have g:=(Y.places Dx).1;have o:HE p.W p.H L=0:=(Vt (X.sk Dx)).2.1;refine f2z g o ?_;obtain⟨s,i⟩:∃s,s∈L:=by
  have:=X.pos;cases L with
  |nil=>simp at this
  |cons s L=>exact⟨s,Dz⟩
 obtain⟨v,q,j,u⟩:=X.one i;refine f4u g a.1 Y Dx i q j ?_;rw[Yo hs X.G d j,u];intro e;have e1:(BE ⟨0,2,0⟩ s.c).x=s.c.x:=by rw[e]
 have e2:(BE ⟨0,2,0⟩ s.c).x=s.c.x+2:=by simp[BE,sq]
 omega
end
section
variable{p:Pt}{r:Mv}{L:List Stk}{b:Int}{k:Nat}
theorem RB(h:k<L.length):L=L.take k++L.getD k AA.d::L.drop (k+1)/\∀a,L.set k a=L.take k++a::L.drop (k+1):=by
 refine⟨?_,λa=>List.set_eq_take_append_cons_drop.trans (J7 h)⟩;have e:L.getD k AA.d=L[k]:=by rw[J5,J6 h];rfl
 rw[e,List.getElem_cons_drop,List.take_append_drop]
theorem sp0(X:StG p r L (AL p r) b)(f:b<=4000)(h:k<L.length)(e:(L.getD k AA.d).l.tail≠[]):CO p r (L.set k ⟨(L.getD k AA.d).c,(L.getD k AA.d).l.tail⟩)=6:=by obtain⟨g,i⟩:=RB h;have j:=X.ne _ (CP (d:=AA.d) h);rw[i];rw[g]at X;obtain⟨v,l,a⟩:=List.exists_cons_of_ne_nil j;have:=f3y X f a;rw[a,List.tail_cons]at e;rw[a,List.tail_cons];rw[J8 e]at this;exact this
theorem sp0e(X:StG p r L (AL p r) b)(e:b<=4000)(h:k<L.length)(a:(L.getD k AA.d).l.tail=[]):CO p r (L.take k++L.drop (k+1))=6:=by obtain⟨f,_⟩:=RB h;have g:=X.ne _ (CP (d:=AA.d) h);rw[f]at X;obtain⟨v,l,c⟩:=List.exists_cons_of_ne_nil g;have:=f3y X e c;rw[c,List.tail_cons]at a;rw[J7 a]at this;exact this
theorem g0q{m:Nat}(h:k<L.length)(a:m<L.length)(b:m≠k):L.getD m AA.d∈L.take k++L.drop (k+1):=by
 have e:L.getD m AA.d=L[m]:=by rw[J5,J6 a];rfl
 rw[e,Jt];rcases Mt b with c|c
 .left;exact List.mem_take_iff_getElem.2 ⟨m,Dx,rfl⟩
 .right;refine List.mem_drop_iff_getElem.2 ⟨m-(k+1),Dx,?_⟩;congr 1;omega
theorem sp1{m:Nat}{v:Int}(X:StG p r L (AL p r) b)(e:b<=4000)(h:k<L.length)(a:m<L.length)(f:m≠k)(g:v=(L.getD m AA.d).l.getD 0 0):CO p r (L.set k ⟨(L.getD k AA.d).c,(L.getD k AA.d).l++[v]⟩)=8:=by
 obtain⟨i,j⟩:=RB h;have n:=g0q h a f;have o:=X.ne _ (CP (d:=AA.d) a);have q:v∈(L.getD m AA.d).l:=by rw[g];exact CP (List.length_pos_iff.2 o)
 generalize L.getD m AA.d=t at*;rw[j];rw[i]at X;exact spoil1 X e n q
theorem sp2(X:StG p r L (AL p r) b)(a:b<=4000)(h:k<L.length):CO p r (L.set k ⟨(L.getD k AA.d).c,(L.getD k AA.d).l++[4*p.W*p.H]⟩)=1:=by obtain⟨e,f⟩:=RB h;rw[f];rw[e]at X;exact spoil2 X a
theorem sp5(X:StG p r L (AL p r) b)(a:b<=4000)(h:k<L.length):CO p r (L.set k ⟨⟨(L.getD k AA.d).c.x,(L.getD k AA.d).c.y,4⟩,(L.getD k AA.d).l⟩)=1:=by obtain⟨e,f⟩:=RB h;rw[f];rw[e]at X;exact spoil5 X a
theorem sp3lt{m:Nat}(X:StG p r L (AL p r) b)(f:b<=4000)(b6:k<m)(hm:m<L.length):CO p r ((L.set k ⟨(L.getD k AA.d).c,(L.getD m AA.d).l⟩).set m ⟨(L.getD m AA.d).c,(L.getD k AA.d).l⟩)=6:=by
 obtain⟨g,i⟩:=RB (show k<L.length from Dx);generalize hs:L.getD k AA.d=s at*;generalize j:L.getD m AA.d=t at*;generalize n:L.take k=A at*;generalize e:L.drop (k+1)=D at*;have o:A.length=k:=by rw[<-n,Mj];omega
 have q:m-(k+1)<D.length:=by rw[<-e,List.length_drop];omega
 have a:D.getD (m-(k+1)) AA.d=t:=by rw[<-j,<-e,J5,J5,Np];congr 2;omega
 obtain⟨f1,f2⟩:=RB q;rw[a]at f1;rw[i,List.set_append_right _ _ Dx,o,show m-k=(m-(k+1))+1 from Dx,List.set_cons_succ,f2];rw[g,f1]at X;exact spoil3 X f
theorem sp3{m:Nat}(X:StG p r L (AL p r) b)(a:b<=4000)(e:k<L.length)(f:m<L.length)(g:m≠k):CO p r ((L.set k ⟨(L.getD k AA.d).c,(L.getD m AA.d).l⟩).set m ⟨(L.getD m AA.d).c,(L.getD k AA.d).l⟩)=6:=by
 rcases Mt g with h|h
 .rw[List.set_comm _ _ Dx];exact sp3lt X a h e
 .exact sp3lt X a h f
end
end Go.Proofs.YtaihldljnlgnoaaGreatDoor.V
