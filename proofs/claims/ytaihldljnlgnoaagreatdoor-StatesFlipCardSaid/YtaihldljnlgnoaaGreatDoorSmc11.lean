/-
  Parts of the proof: Q8 D12 D14 D15 Y12 Y13 Y14 D16 Y15 D17 Y16 D18 D19 D22 D23. Conditions: none.
-/
import Derived.Test.YtaihldljnlgnoaaGreatDoorSmc7
import Derived.Test.YtaihldljnlgnoaaGreatDoorSmc9
import Derived.Test.YtaihldljnlgnoaaGreatDoorSmc10
set_option maxRecDepth 100000
set_option maxHeartbeats 40000000
namespace Go.Proofs.YtaihldljnlgnoaaGreatDoor.V
open Go
section
variable{α:Type}{d:α}{lt:α->α->Bool}{key:α->List Int}
def Oy(key:α->List Int)(x y:α):Prop:=AZ (key x) (key y)<=0
theorem f8d(a:∀x y,lt x y=decide (AZ (key x) (key y)<0)){x y:α}:¬lt x y=true↔Oy key y x:=by rw[a,Jq];unfold Oy;have:=IG (key x) (key y);omega
theorem d03{j:Nat}{l:List α}(h:j<l.length):(FN d lt 0 j l).length=l.length:=(b69 j l h).len
theorem c1r(w:∀x y,lt x y=decide (AZ (key x) (key y)<0)){m:Nat}:∀(j:Nat) (l:List α),j<=m->m<l.length->(∀i k,i<k->k<=m->i≠j->k≠j->Oy key (l.getD i d) (l.getD k d))->(∀k,j<k->k<=m->Oy key (l.getD j d) (l.getD k d))->
 ∀i k,i<k->k<=m->Oy key ((FN d lt 0 j l).getD i d) ((FN d lt 0 j l).getD k d)
 |0,l,_,_,g,s=>by
  intro i k o r;rw[FN];by_cases e:i=0
  .subst e;exact s k o r
  .exact g i k o r e E4
 |j+1,l,hj,B,g,s=>by
  intro i k o r;rw[FN];split
  .rename_i z;have C:=z.2;have t:Oy key (l.getD (j+1) d) (l.getD j d):=by
    rw[w,Jq]at C;unfold Oy;omega
   have u:∀n,(DK d l (j+1) j).getD n d=if n=j then l.getD (j+1) d else if n=j+1 then l.getD j d else l.getD n d:=λn=>b6m E4 E4;refine c1r w j (DK d l (j+1) j) E4 (by rw[b39];exact B) (λa b A v E nb=> ?_) (λb A v=> ?_) i k o r
   .rw[u,u,Jg E,Jg nb];by_cases f:a=j+1
    .rw[Jf f,Jg E4];exact g j b E4 v E4 E4
    .rw[Jg f];by_cases c:b=j+1
     .rw[Jf c];exact g a j E4 E4 f E4
     .rw[Jg c];exact g a b A v f c
   .rw[u,u,Jf rfl,Jg E4];by_cases c:b=j+1
    .rw[Jf c];exact t
    .rw[Jg c];exact s b E4 v
  .rename_i z;have t:Oy key (l.getD j d) (l.getD (j+1) d):=(f8d w).1 (λq=>z ⟨E4,q⟩);by_cases f:i=j+1
   .subst f;exact s k o r
   .by_cases c:k=j+1
    .subst c;by_cases F:i=j
     .subst F;exact t
     .exact b90 (g i j E4 E4 f E4) t
    .exact g i k o r f c
theorem b78(e:∀x y,lt x y=decide (AZ (key x) (key y)<0)):∀(k i:Nat) (l:List α),i+k<=l.length->(∀a b,a<b->b<i->Oy key (l.getD a d) (l.getD b d))->∀a b,a<b->b<i+k->Oy key ((GO d lt 0 k i l).getD a d) ((GO d lt 0 k i l).getD b d)
 |0,i,l,_,h=>λa b c g=>h a b c E4
 |k+1,i,l,hl,h=>by intro a b c g;rw[GO];have n:=d03 (d:=d) (lt:=lt) (j:=i) (l:=l) E4;refine b78 e k (i+1) _ (by rw[n];omega) (λx y o h4=> ?_) a b c E4;exact c1r e (m:=i) i l (Jm _) E4 (λx y f q n1 n2=>h x y f E4) (λy f q=>E4) x y o E4
theorem b4w(M:List α):(FP d lt 0 M.length M).Perm M:=(WK (Jm _)).perm
theorem d23(l:∀x y,lt x y=decide (AZ (key x) (key y)<0)){M:List α}(m:(M.map key).Nodup):∀i j,i<j->j<(FP d lt 0 M.length M).length->AZ (key ((FP d lt 0 M.length M).getD i d)) (key ((FP d lt 0 M.length M).getD j d))<0:=by
 intro i j c n;have f:=b4w (d:=d) (lt:=lt) M;have g:((FP d lt 0 M.length M).map key).Nodup:=((f.symm.map _).nodup_iff).1 m;have hl:=f.length_eq;have o:Oy key ((FP d lt 0 M.length M).getD i d) ((FP d lt 0 M.length M).getD j d):=by unfold FP;refine b78 l (M.length-(0+1)) (0+1) M E4 (λa b h3 h4=>E4) i j c E4
 unfold Oy at o;have ba:AZ (key ((FP d lt 0 M.length M).getD i d)) (key ((FP d lt 0 M.length M).getD j d))≠0:=λe=>by have k:=NV _ _ e;rw[List.Nodup,Kg]at g;have:=g i j (by rw[Ke];omega) (by rw[Ke];omega) c;rw[Mp,Mp]at this;rw[Jd,Jd,Je E4,Je n]at k;exact this k
 omega
end
def Dl(K C sd:Int)(L:List Stk):List Stk:=L.filter λs=> !decide (DF K C s.c=sd)
def DH(K C sd:Int)(L:List Stk):List Stk:=(L.filter λs=>decide (DF K C s.c=sd)).map λs=>⟨AV (Al K C) s.c,s.l.reverse⟩
def NK(over:Bool)(a b:List Int):List Int:=if over=true then a++b else b++a
def EO(over:Bool):List Stk->Stk->List Stk
 | [],x=>[x]
 |s::S,x=>if s.c=x.c then⟨s.c,NK over s.l x.l⟩::S else s::EO over S x
def AY(over:Bool)(S A:List Stk):List Stk:=A.foldl (EO over) S
def NI(M:List Stk):List Stk:=FP AA.d AP 0 M.length M
def JV(over:Bool)(K C sd:Int)(L:List Stk):List Stk:=NI (AY over (Dl K C sd L) (DH K C sd L))
theorem KM(s:Stk)(L:List Stk)(c:Cl):AX (s::L) c=if s.c=c then s.l else AX L c:=by
 unfold AX;rw[List.find?_cons];by_cases h:s.c=c
 .simp[h]
 .simp[h]
theorem XO(c:Cl):AX [] c=[]:=rfl
theorem c5d(over:Bool)(l:List Int):NK over [] l=l:=by unfold NK;split<;>simp
theorem d0y{over:Bool}{x:Stk}:∀(S:List Stk) (c:Cl),AX (EO over S x) c=if c=x.c then NK over (AX S c) x.l else AX S c
 | [],c=>by
   rw[EO,KM,XO,c5d];by_cases h:x.c=c
   .rw[Jf h,Jf h.symm]
   .rw[Jg h,Jg (λq=>h q.symm)]
 |s::S,c=>by
  rw[EO];split
  .rename_i h;rw[KM,KM];by_cases q:s.c=c
   .rw[Jf q,Jf q,Jf (q.symm.trans h)]
   .rw[Jg q,Jg q,Jg (λe=>q (h.trans e.symm))]
  .rename_i h;rw[KM,KM,d0y S c];by_cases q:s.c=c
   .rw[Jf q,Jf q,Jg (λe=>h (q.trans e))]
   .rw[Jg q,Jg q]
theorem c0x{over:Bool}{x:Stk}:∀(S:List Stk) (c:Cl),c∈(EO over S x).map (·.c)↔c∈S.map (·.c)\/c=x.c
 | [],c=>by simp[EO]
 |s::S,c=>by
  rw[EO];split
  .rename_i h;simp only[L3,Jt];constructor
   .rintro(q|q)
    .exact .inl (.inl q)
    .exact .inl (.inr q)
   .rintro((q|q)|q)
    .exact .inl q
    .exact .inr q
    .exact .inl (q.trans h.symm)
  .simp only[L3,Jt,c0x S c];exact or_assoc.symm
def CK(L:List Stk):Prop:=(L.map (·.c)).Nodup
theorem d1j{over:Bool}{x:Stk}:∀(S:List Stk),CK S->CK (EO over S x)
 | [],_=>by simp[CK,EO]
 |s::S,h=>by
  unfold CK at h⊢;rw[EO];rw[L3,Lc]at h;split
  .rw[L3,Lc];exact h
  .rename_i q;rw[L3,Lc];refine⟨λa=> ?_,d1j S h.2⟩;rcases(c0x S s.c).1 a with a|a
   .exact h.1 a
   .exact q a
theorem d6x{over:Bool}{x:Stk}(hx:x.l≠[]):∀(S:List Stk),(∀s∈S,s.l≠[])->∀s∈EO over S x,s.l≠[]
 | [],_=>λs hs=>by simp only[EO,K4]at hs;subst hs;exact hx
 |t::S,h=>λs hs=>by
  rw[EO]at hs;split at hs
  .rcases Jt.1 hs with rfl|hs
   .show NK over t.l x.l≠[];unfold NK;split<;>simp[hx]
   .exact h s (K8 _ hs)
  .rcases Jt.1 hs with rfl|hs
   .exact h _ E6
   .exact d6x hx S (λz a=>h z (K8 _ a)) s hs
theorem b47{over:Bool}{x:Stk}:∀(S:List Stk) (k:Nat),k<S.length->(∀j,j<k->(S.getD j AA.d).c≠x.c)->(S.getD k AA.d).c=x.c->EO over S x=S.set k ⟨(S.getD k AA.d).c,NK over (S.getD k AA.d).l x.l⟩
 | [],k,h,_,_=>Ee
 |s::S,0,_,_,h=>by rw[EO];have a:s.c=x.c:=h;rw[Jf a];rfl
 |s::S,k+1,h,b,e=>by rw[EO];have a:s.c≠x.c:=b 0 E4;rw[Jg a,b47 S k Ea (λj bm=>b (j+1) E4) e];rfl
theorem Yb{over:Bool}{x:Stk}:∀(S:List Stk),(∀j,j<S.length->(S.getD j AA.d).c≠x.c)->EO over S x=S++[x]
 | [],_=>rfl
 |s::S,h=>by rw[EO];have a:s.c≠x.c:=h 0 E6;rw[Jg a,Yb S (λj hj=>h (j+1) Et)];rfl
theorem c57{over:Bool}:∀(A S:List Stk),CK S->CK (AY over S A)
 | [],_,h=>h
 |x::A,S,h=>by show CK (AY over (EO over S x) A);exact c57 A _ (d1j S h)
theorem d4d{over:Bool}:∀(A S:List Stk),(∀s∈A,s.l≠[])->(∀s∈S,s.l≠[])->∀s∈AY over S A,s.l≠[]
 | [],_,_,h=>h
 |x::A,S,a,h=>d4d A _ (λs hs=>a s (K8 _ hs)) (d6x (a x E6) S h)
theorem c6u{over:Bool}:∀(A S:List Stk) (c:Cl),c∈(AY over S A).map (·.c)↔c∈S.map (·.c)\/c∈A.map (·.c)
 | [],S,c=>by simp[AY]
 |x::A,S,c=>by have:=c6u (over:=over) A (EO over S x) c;have e:AY over S (x::A)=AY over (EO over S x) A:=rfl;rw[e,this,c0x,L3,Jt];exact or_assoc
theorem Wm{L:List Stk}{c:Cl}(h:c∉L.map (·.c)):AX L c=[]:=by
 induction L with
 |nil=>rfl
 |cons s L a=>
  rw[L3,Jt,not_or]at h;rw[KM,Jg (λq=>h.1 q.symm),a h.2]
theorem c1k(over:Bool)(l:List Int):NK over l []=l:=by unfold NK;split<;>simp
theorem c4k{over:Bool}:∀(A S:List Stk) (c:Cl),CK A->AX (AY over S A) c=NK over (AX S c) (AX A c)
 | [],S,c,_=>by rw[XO,c1k];rfl
 |x::A,S,c,h=>by
  unfold CK at h;rw[L3,Lc]at h;have e:AY over S (x::A)=AY over (EO over S x) A:=rfl;rw[e,c4k A _ c h.2,d0y,KM];by_cases q:c=x.c
  .rw[Jf q,Jf q.symm,q,Wm h.1,c1k]
  .rw[Jg q,Jg (λz=>q z.symm)]
theorem Qf{L:List Stk}(h:CK L){s:Stk}(hs:s∈L):AX L s.c=s.l:=by
 induction L with
 |nil=>cases hs
 |cons a L b=>
  unfold CK at h;rw[L3,Lc]at h;rw[KM];rcases Jt.1 hs with rfl|hs
  .rw[Jf rfl]
  .rw[Jg (λq=>h.1 (Jx.2 ⟨s,hs,q.symm⟩))];exact b h.2 hs
theorem RI(L:List Stk)(c:Cl):(∃s∈L,s.c=c)\/AX L c=[]:=by
 by_cases h:c∈L.map (·.c)
 .obtain⟨s,hs,e⟩:=Jx.1 h;exact .inl ⟨s,hs,e⟩
 .exact .inr (Wm h)
theorem b2c{L M:List Stk}(a:CK L)(h:L.Perm M)(c:Cl):AX L c=AX M c/\CK M:=by
 have b:CK M:=((h.map _).nodup_iff).1 a;refine⟨?_,b⟩;rcases RI L c with⟨s,hs,rfl⟩|d
 .rw[Qf a hs,Qf b (h.mem_iff.1 hs)]
 .rcases RI M c with⟨s,hs,rfl⟩|e
  .rw[Qf b hs,Qf a (h.mem_iff.2 hs)]
  .rw[d,e]
theorem d5w{K C sd:Int}:∀(L:List Stk) (c:Cl),AX (Dl K C sd L) c=if DF K C c=sd then []else AX L c
 | [],c=>by simp[Dl,XO]
 |s::L,c=>by
  have a:=@d5w K C sd L c;unfold Dl at a⊢;rw[List.filter_cons];by_cases h:DF K C s.c=sd
  .rw[Jg (by simp[h]),a,KM];by_cases q:s.c=c
   .rw[Jf q,<-q,Jf h,Jf h]
   .rw[Jg q]
  .rw[Jf (by simp[h]),KM,a,KM];by_cases q:s.c=c
   .rw[Jf q,Jf q,<-q,Jg h]
   .rw[Jg q,Jg q]
theorem d2g{K C sd:Int}{c:Cl}(b:BH c):∀(L:List Stk),(∀s∈L,BH s.c)->AX (DH K C sd L) c=if DF K C (AV (Al K C) c)=sd then(AX L (AV (Al K C) c)).reverse else []
 | [],_=>by simp[DH,XO]
 |s::L,d=>by
  have a:=@d2g K C sd c b L (λt g=>d t (K8 _ g));have hs:=d s E6;unfold DH at a⊢;have f:AV (Al K C) s.c=c↔s.c=AV (Al K C) c:=⟨λe=>by rw[<-e,Qx hs],λe=>by rw[e,Qx b]⟩
  rw[List.filter_cons];by_cases h:DF K C s.c=sd
  .rw[Jf (by simp[h]),L3,KM,a,KM];by_cases q:s.c=AV (Al K C) c
   .rw[Jf (f.2 q),Jf q,<-q,Jf h]
   .rw[Jg (λz=>q (f.1 z)),Jg q]
  .rw[Jg (by simp[h]),a,KM];by_cases q:s.c=AV (Al K C) c
   .rw[Jf q,<-q,Jg h,Jg h]
   .rw[Jg q]
theorem Wh(x y:Stk):AP x y=decide (AZ (BC x.c) (BC y.c)<0):=by unfold AP;rw[Ut]
theorem c1g(M:List Stk):(NI M).Perm M:=b4w M
theorem f5i{M:List Stk}(h:CK M):∀i j,i<j->j<(NI M).length->AZ (BC ((NI M).getD i AA.d).c) (BC ((NI M).getD j AA.d).c)<0:=by
 have a:(M.map λs=>BC s.c).Nodup:=by unfold CK at h;rw[List.Nodup,Kw]at h⊢;exact h.imp λb e=>b (b95 e)
 exact d23 (key:=λs:Stk=>BC s.c) Wh a
theorem f4e{over:Bool}{K C sd:Int}{L:List Stk}(v:1<=K/\K<=4)(hsd:sd=0\/sd=1)(r:CK L)(hq:∀s∈L,BH s.c)(u:∀s∈L,s.l≠[]):
 (∀c,BH c->AX (JV over K C sd L) c=EM (AX L) K C sd over c)/\CK (JV over K C sd L)/\(∀s∈JV over K C sd L,s.l≠[]/\BH s.c)/\
 ∀i j,i<j->j<(JV over K C sd L).length->AZ (BC ((JV over K C sd L).getD i AA.d).c) (BC ((JV over K C sd L).getD j AA.d).c)<0:=by
 have w:CK (Dl K C sd L):=by unfold CK Dl;exact Nw (List.filter_sublist.map _) r
 have x:CK (DH K C sd L):=by unfold CK DH;rw[Lh];have g:((L.filter λs=>decide (DF K C s.c=sd)).map (·.c)).Nodup:=Nw (List.filter_sublist.map _) r;rw[List.Nodup,Kw]at g⊢;refine List.Pairwise.imp_of_mem (λ{a b} ha hb tp e=> ?_) g;exact Dw
 have k:=c57 (over:=over) (DH K C sd L) _ w;have m:=c1g (AY over (Dl K C sd L) (DH K C sd L));have y:∀c,c∈(AY over (Dl K C sd L) (DH K C sd L)).map (·.c)->BH c:=by
  intro c f;rcases(c6u _ _ c).1 f with h|h
  .obtain⟨s,hs,rfl⟩:=Jx.1 h;exact hq s (Kv.1 hs).1
  .obtain⟨s,hs,rfl⟩:=Jx.1 h;obtain⟨t,n,rfl⟩:=Jx.1 hs;exact Pk GS (hq t (Kv.1 n).1)
 have o:∀s∈AY over (Dl K C sd L) (DH K C sd L),s.l≠[]:=by refine d4d _ _ (λs hs=> ?_) (λs hs=>u s (Kv.1 hs).1);obtain⟨t,n,rfl⟩:=Jx.1 hs;have:=u t (Kv.1 n).1;simpa using this
 refine⟨λc f=> ?_,(b2c k m.symm ⟨0,0,0⟩).2,λs hs=> ?_,λi j g z=>f5i k i j g z⟩
 .have e:AX (JV over K C sd L) c=AX (AY over (Dl K C sd L) (DH K C sd L)) c:=((b2c k m.symm c).1).symm;rw[e,c4k _ _ c x,d5w,d2g f L hq];have hs:=@Sd K C c v f;have Y4:=@Qs K C c;unfold EM;by_cases h:DF K C c=sd
  .rw[Jf h,Jg E4,Jg (λq=>q.2 h),c5d]
  .rw[Jg h,Jf E4,Jf ⟨f,h⟩];rfl
 .have hs':s∈AY over (Dl K C sd L) (DH K C sd L):=m.mem_iff.1 hs;exact⟨o s hs',y s.c (Jx.2 ⟨s,hs',rfl⟩)⟩
structure StG (p:Pt) (r:Mv) (L:List Stk) (P:Int->Mv) (B:Int):Prop where
 hp:BO p=0
 G:PlcG p P
 r0:P 0=r
 bd:∀i,AR p i->(-B<=(AQ p P i).x/\(AQ p P i).x<=B)/\ -B<=(AQ p P i).y/\(AQ p P i).y<=B
 lt:∀i j,i<j->j<L.length->AZ (BC (L.getD i AA.d).c) (BC (L.getD j AA.d).c)<0
 ne:∀s∈L,s.l≠[]
 S:StkF p P (AX L)
 N:NcG p P (AX L)
 D:Tv p P (AX L)
theorem c8r{L:List Stk}(lt:∀i j,i<j->j<L.length->AZ (BC (L.getD i AA.d).c) (BC (L.getD j AA.d).c)<0):CK L:=by unfold CK;rw[List.Nodup,Kg];intro i j b a h e;rw[Ke]at b a;rw[Mp,Mp]at e;have:=lt i j h a;rw[Jd,Jd,Je b,Je a]at this;simp only[L4]at this;rw[e]at this;have h2:=IG (BC L[j].c) (BC L[j].c);omega
theorem d4a:∀{l:List Int},l.Nodup->IE l=false
 | [],_=>rfl
 |x::l,h=>by obtain⟨h1,a⟩:=Lc.1 h;simp only[IE,Lz];exact⟨F0,d4a a⟩
theorem f30:∀(n:Nat) (l:List Int),(∀x:Int,0<=x->x<n->x∈l)->n<=l.length
 |0,_,_=>Js _
 |n+1,l,h=>by have a:=h (n:Int) E4 E4;have:=f30 n (l.erase (n:Int)) (λx b h1=>(List.mem_erase_of_ne E4).2 (h x b E4));rw[List.length_erase_of_mem a]at this;have h2:=List.length_pos_of_mem a;omega
section
variable{p:Pt}{P Q:Int->Mv}{f:Cl->List Int}
theorem UF(h:∀i,AR p i->Q i=P i){i:Int}(hi:AR p i):AQ p Q i=AQ p P i:=by unfold AQ;rw[h i hi]
theorem UE(h:∀i,AR p i->Q i=P i){i e:Int}(hi:AR p i):BQ p Q i e=BQ p P i e:=by unfold BQ;rw[h i hi]
theorem nc_cg(h:∀i,AR p i->Q i=P i)(N:NcG p P f):NcG p Q f:=by
 refine⟨λi e j k c s q u d l=> ?_,λi e a k c g q r d n o=> ?_,λa k b m g l r kb d n o t=> ?_⟩
 .rw[UE h c.1,UE h s.1]at d;rw[UF h c.1]at l;rw[UE h c.1];exact N.pp i e j k c s q u d l
 .rw[UE h c.1,UE h g.1]at d;rw[UF h c.1]at n o;exact N.pl i e a k c g q r d n o
 .rw[UE h g.1,UE h l.1]at d;rw[UF h g.1]at n o t;exact N.ll a k b m g l r kb d n o t
theorem kd_cg(hs:AO p.W p.H=0)(h:∀i,AR p i->Q i=P i)(D:Tv p P f):Tv p Q f:=by intro a k b d c;rw[UF h b.1]at c;rw[h _ (LO hs b.1 b.2.1 b.2.2).1];exact D a k b d c
end
namespace StG
variable{p:Pt}{r:Mv}{L:List Stk}{P:Int->Mv}{B:Int}
theorem hs(X:StG p r L P B):AO p.W p.H=0:=(GC X.hp).1
theorem cells(X:StG p r L P B):CK L:=c8r X.lt
theorem at_(X:StG p r L P B){s:Stk}(hs:s∈L):AX L s.c=s.l:=Qf X.cells hs
theorem inSt(X:StG p r L P B){s:Stk}(hs:s∈L){v:Int}(a:v∈s.l):AR p v/\AQ p P v=s.c:=(X.S.mem s.c v).1 (by rw[X.at_ hs];exact a)
theorem one(X:StG p r L P B){s:Stk}(hs:s∈L):∃v,v∈s.l/\AR p v/\AQ p P v=s.c:=by
 cases hl:s.l with
 |nil=>exact absurd hl (X.ne s hs)
 |cons v l=>
  have a:v∈s.l:=by rw[hl];simp
  exact⟨v,by simp,X.inSt hs a⟩
theorem cQ(X:StG p r L P B){s:Stk}(hs:s∈L):BH s.c:=by obtain⟨v,_,a,b⟩:=X.one hs;rw[<-b];exact KQ X.hs X.G a
theorem cB(X:StG p r L P B){s:Stk}(hs:s∈L):(-B<=s.c.x/\s.c.x<=B)/\ -B<=s.c.y/\s.c.y<=B:=by obtain⟨v,_,a,b⟩:=X.one hs;rw[<-b];exact X.bd v a
theorem vm(X:StG p r L P B)(hB:B<=4000){i:Int}(hi:AR p i):vM (P i)/\vC (AQ p P i):=by
 obtain⟨b,c⟩:=X.G.ok i hi;have a:=X.bd i hi;have d:=KQ X.hs X.G hi;have hc:=PP X.hs hi.1 hi.2;have hx:AQ p P i=⟨(sq (P i).t (AJ p.W p.H i).x (AJ p.W p.H i).y).1+(P i).x,(sq (P i).t (AJ p.W p.H i).x (AJ p.W p.H i).y).2+(P i).y,tq (P i).t (AJ p.W p.H i).q⟩:=rfl;have W8:(-400<=(sq (P i).t (AJ p.W p.H i).x (AJ p.W p.H i).y).1/\(sq (P i).t (AJ p.W p.H i).x (AJ p.W p.H i).y).1<=400)/\ -400<=(sq (P i).t (AJ p.W p.H i).x (AJ p.W p.H i).y).2/\(sq (P i).t (AJ p.W p.H i).x (AJ p.W p.H i).y).2<=400:=by
  unfold sq;repeat' split
  all_goals(dsimp only;omega)
 refine⟨f21 b c ?_ ?_,?_⟩
 .rw[hx]at a;simp only at a;omega
 .rw[hx]at a;simp only at a;omega
 .unfold vC;unfold BH at d;omega
theorem places(X:StG p r L P B)(a:B<=4000):CF p r=0/\∀i,AR p i->AM p r i=P i:=d5b X.hp X.G X.r0 λ_ b=>X.vm a b
theorem flat_mem(X:StG p r L P B)(v:Int):v∈BX L↔AR p v:=by
 unfold BX;rw[List.mem_flatMap];constructor
 .rintro⟨s,hs,a⟩;exact(X.inSt hs a).1
 .intro a;have h:=(X.S.mem (AQ p P v) v).2 ⟨a,rfl⟩;rcases RI L (AQ p P v)with⟨s,hs,e⟩|b
  .rw[<-e,X.at_ hs]at h;exact⟨s,hs,h⟩
  .rw[b]at h;simp at h
theorem flat_nd(X:StG p r L P B):(BX L).Nodup:=by
 unfold BX;rw[List.Nodup,List.pairwise_flatMap];refine⟨λs hs=> ?_,?_⟩
 .have:=X.S.nd s.c;rw[X.at_ hs]at this;exact this
 .have a:=X.cells;unfold CK at a;rw[List.Nodup,List.pairwise_map]at a;refine a.imp_of_mem λ{s t} hs b d x hx y f e=> ?_;subst e;exact d ((X.inSt hs hx).2.symm.trans (X.inSt b f).2)
theorem sk(X:StG p r L P B)(w:B<=4000):CZ p r L=0:=by
 have hs:=X.hs;have hN:=CQ hs;have hc:EP p.W p.H=4*p.W*p.H:=by unfold EP;rw[if_pos hs]
 obtain⟨z,E⟩:=X.places w;have F:0<=r.t:=by rw[<-X.r0];exact(X.G.ok 0 ⟨Int.le_refl _,by omega⟩).1.1
 have I:=Rt F z;have J:JP p.W p.H L=0:=by
  unfold JP;rw[if_pos hs,if_neg,if_neg,if_neg]
  .have:AF p.W p.H<=(BX L).length:=f30 _ _ λx A K=>(X.flat_mem x).2 ⟨A,by omega⟩;omega
  .rw[d4a X.flat_nd];decide
  .intro f;obtain⟨i,j,f⟩:=List.any_eq_true.1 f;have C:=List.mem_range.1 j;have k:=CY (d:=AA.d) C;have m:=X.cQ k;have M:=X.cB k;have N:=X.ne _ k;unfold BH at m;unfold KY at f;have O:DQ (L.getD i AA.d).c.x (L.getD i AA.d).c.y (L.getD i AA.d).c.q=0:=by unfold DQ;rw[if_pos (by omega)]
   have Q:(decide (0<(i:Int))&&decide (0<=FY (L.getD ((i:Int)-1).toNat AA.d).c.x (L.getD ((i:Int)-1).toNat AA.d).c.y (L.getD ((i:Int)-1).toNat AA.d).c.q (L.getD i AA.d).c.x (L.getD i AA.d).c.y (L.getD i AA.d).c.q))=false:=by
    by_cases A:0<i
    .have:=X.lt ((i:Int)-1).toNat i (by omega) C;rw[<-Ut]at this;rw[Bool.and_eq_false_iff];right;exact decide_eq_false (by omega)
    .rw[decide_eq_false (by omega)];rfl
   have R:decide (((L.getD i AA.d).l.length:Int)=0)=false:=decide_eq_false λh=>N (List.eq_nil_of_length_eq_zero (by omega));have S:(L.getD i AA.d).l.any (OR (EP p.W p.H))=false:=by rw[List.any_eq_false];intro v o;have g:=(X.inSt k o).1;unfold AR at g;unfold OR;rw[Bool.or_eq_true,decide_eq_true_eq,decide_eq_true_eq];omega
   rw[O,Q,R,S]at f;simp at f
 unfold CZ;rw[if_pos z,if_pos J,if_neg,if_neg]
 .intro f;obtain⟨s,n,f⟩:=List.any_eq_true.1 f;obtain⟨e,T,f⟩:=List.any_eq_true.1 f;have di:=List.mem_range.1 T;have m:=X.cQ n;have M:=X.cB n;have u:=@MW s.c (e:Int) m (by omega);unfold Qi at f;unfold BH at m;have:GF s.c.x s.c.y s.c.q e=0:=by
   have K:(-4096<=EE s.c.q e+s.c.x/\EE s.c.q e+s.c.x<=4096)/\(-4096<=EJ s.c.q e+s.c.y/\EJ s.c.q e+s.c.y<=4096)/\0<=EL s.c.q e/\EL s.c.q e<=3:=by have a:(AU s.c e).x=EE s.c.q e+s.c.x:=rfl;have b:(AU s.c e).y=EJ s.c.q e+s.c.y:=rfl;have c:(AU s.c e).q=EL s.c.q e:=rfl;rw[a,b,c]at u;omega
   unfold GF;rw[if_pos ⟨by unfold DQ;rw[if_pos (by omega)],by omega⟩,if_pos];unfold DQ;rw[if_pos (by omega)]
  rw[this]at f;simp at f
 .intro f;obtain⟨s,n,f⟩:=List.any_eq_true.1 f;obtain⟨v,o,f⟩:=List.any_eq_true.1 f;obtain⟨g,U⟩:=X.inSt n o;have V:((v.toNat:Nat):Int)=v:=by have:=g.1;omega
  have j:=(I.im v.toNat (by have:=g.1;have:=g.2;omega)).1;rw[V]at j;have Y:=X.vm w g;have Z:(BR p r).getD v.toNat AE.d=P v:=E v g;have hw:=PP hs g.1 g.2;rw[Z,Qt Y.1 (by omega)]at j;unfold Ob at f;rw[j]at f;have:AV (P v) (AJ p.W p.H v)=s.c:=U;rw[this]at f;simp at f
theorem valid(X:StG p r L P B)(a:B<=4000):FE p r L=0:=by
 have h:=X.sk a;obtain⟨h1,b⟩:=X.places a;have hs:=X.hs;have hN:=CQ hs;refine f2k h ?_ (λs d=> ?_) (nc_cg b X.N) (kd_cg hs b X.D)
 .rw[<-X.r0];exact(X.G.ok 0 ⟨Int.le_refl _,by omega⟩).1.1
 .have:=X.cQ d;unfold BH at this;exact⟨this.1,by show s.c.q<=255;omega⟩
end StG
def JF(x y:Cr):Bool:=decide (x.c<y.c)||(decide (x.c=y.c)&&decide (x.e<y.e))
theorem f12(x y:Cr):JF x y=decide (AZ (NB x) (NB y)<0):=by
 have:AZ (NB x) (NB y)<0↔x.c<y.c\/x.c=y.c/\x.e<y.e:=by
  simp only[NB,AZ,CT];repeat' split
  all_goals omega
 unfold JF;rw[Ly,Kk,K9,Jq,Jq,Jq,Jq];exact this.symm
theorem c5x(x y:Cr):Io x.c x.e y.c y.e<0↔AZ (NB x) (NB y)<0:=by
 simp only[NB,AZ,CT,Io];repeat' split
 all_goals omega
structure Pas where
 a:Int
 b:Int
 K:Int
 C:Int
 deriving DecidableEq
def PR(p:Pt)(P:Int->Mv)(j:Nat):Option Pas:=
 if BL p.W p.H (uA j) ((j%3:Nat):Int)<uA j\/KG p.W p.H p.l j≠0 then none
 else some ⟨uA j,BL p.W p.H (uA j) ((j%3:Nat):Int),(GX (DG (AQ p P (uA j))) (DG (AQ p P (BL p.W p.H (uA j) ((j%3:Nat):Int))))).1,(GX (DG (AQ p P (uA j))) (DG (AQ p P (BL p.W p.H (uA j) ((j%3:Nat):Int))))).2⟩
def HC(p:Pt)(P:Int->Mv)(n:Nat):List Pas:=(List.range n).filterMap (PR p P)
def Vd(p:Pt)(P:Int->Mv)(over:Bool)(x:Pas):Cr:=⟨x.a,UR p.W p.H x.a x.b,FdG.nkG P over x.a⟩
def Og(K C:Int)(x:Pas):Bool:=decide (x.K=K)&&decide (x.C=C)
def MF(p:Pt)(P:Int->Mv)(K C:Int)(over:Bool):List Cr:=((HC p P (3*AF p.W p.H)).filter (Og K C)).map (Vd p P over)
def ND(l:List Cr):List Cr:=FP d0 JF 0 l.length l
def FR(p:Pt)(P:Int->Mv)(K C:Int)(over:Bool):Pt:=⟨p.W,p.H,ND (p.l++MF p P K C over)⟩
section
variable{p:Pt}{P:Int->Mv}{K C:Int}{over:Bool}
theorem d3f(f:BO p=0)(G:PlcG p P){j:Nat}(hj:j<3*AF p.W p.H){x:Pas}(h:PR p P j=some x):CN p (uA j) (uE j)/\BB p (uA j) (uE j)=0/\uA j<BA p (uA j) (uE j)/\x=⟨uA j,BA p (uA j) (uE j),(GX (DG (AQ p P (uA j))) (DG (BQ p P (uA j) (uE j)))).1,(GX (DG (AQ p P (uA j))) (DG (BQ p P (uA j) (uE j)))).2⟩:=by
 have hs:=(GC f).1;have hN:=CQ hs;have a:AR p (uA j):=⟨by show (0:Int)<=((j/3:Nat):Int);omega,by show ((j/3:Nat):Int)<_;omega⟩
 unfold PR at h;split at h
 .cases h
 .rename_i g;rw[not_or,Classical.not_not]at g;obtain⟨i,c⟩:=g;have b:AW p.W p.H (uA j) (uE j)=0:=by
   by_cases q:AW p.W p.H (uA j) (uE j)=0
   .exact q
   .exfalso;have:BL p.W p.H (uA j) ((j%3:Nat):Int)= -1:=Jg q;rw[this]at i;have:=a.1;omega
  have k:BL p.W p.H (uA j) ((j%3:Nat):Int)=BA p (uA j) (uE j):=Jf b;have l:CN p (uA j) (uE j):=⟨a,MT,b⟩
  rw[d4k f b]at c;rw[k]at i h;obtain⟨q1,m,q3⟩:=OX hs G a MT b c;have ba:BA p (uA j) (uE j)≠uA j:=λe=>by have:=(LO hs a MT b).2.1;have n:AH p.W p.H (uA j) (uE j)=uA j:=e;rw[n]at this;exact YC (KH hs a) MT this.symm
  refine⟨l,c,E4,?_⟩;have d:AQ p P (BA p (uA j) (uE j))=BQ p P (uA j) (uE j):=m;rw[d]at h;exact(Kh h).symm
theorem f93(g:BO p=0)(G:PlcG p P){a e:Int}(b:CN p a e)(i:BB p a e=0)(hl:a<BA p a e):∃j,j<3*AF p.W p.H/\uA j=a/\uE j=e/\PR p P j=some ⟨a,BA p a e,(GX (DG (AQ p P a)) (DG (BQ p P a e))).1,(GX (DG (AQ p P a)) (DG (BQ p P a e))).2⟩:=by
 have hs:=(GC g).1;have hN:=CQ hs;have k:=b.1;unfold AR at k;obtain⟨c,l⟩:=WZ k.1 (Qd (q:=a%4) (e:=e));have tf:=@Qd (a%4) e;have d:uE (3*a+DU (a%4) e).toNat=e:=by unfold uE;rw[c,l,TW Ok b.2.1]
 refine⟨(3*a+DU (a%4) e).toNat,E4,c,d,?_⟩;have n:AW p.W p.H (uA (3*a+DU (a%4) e).toNat) (uE (3*a+DU (a%4) e).toNat)=0:=by rw[c,d];exact b.2.2
 have m:=d4k g n;rw[c,d,i]at m;obtain⟨q1,o,q3⟩:=OX hs G b.1 b.2.1 b.2.2 i;have r:BL p.W p.H a ((DU (a%4) e:Nat):Int)=BA p a e:=d6h b.2.1 b.2.2;have f:AQ p P (BA p a e)=BQ p P a e:=o;unfold PR;rw[c,l,r,Jg (by rw[m];omega),f]
theorem Yk(g:BO p=0)(G:PlcG p P){x:Pas}:x∈HC p P (3*AF p.W p.H)↔∃a e,CN p a e/\BB p a e=0/\a<BA p a e/\x=⟨a,BA p a e,(GX (DG (AQ p P a)) (DG (BQ p P a e))).1,(GX (DG (AQ p P a)) (DG (BQ p P a e))).2⟩:=by
 unfold HC;rw[Nc];constructor
 .rintro⟨j,b,h⟩;obtain⟨c,d,f,i⟩:=d3f g G (Ki.1 b) h;exact⟨uA j,uE j,c,d,f,i⟩
 .rintro⟨a,e,c,d,f,rfl⟩;obtain⟨j,b,_,_,h⟩:=f93 g G c d f;exact⟨j,Ki.2 b,h⟩
theorem c8a(f:BO p=0)(G:PlcG p P){c:Cr}:c∈MF p P K C over↔∃a e,CN p a e/\BB p a e=0/\a<BA p a e/\KC p P K C a e/\c=⟨a,e,FdG.nkG P over a⟩:=by
 have hs:=(GC f).1;unfold MF;rw[Jx];constructor
 .rintro⟨x,hx,rfl⟩;obtain⟨hx,d⟩:=Kv.1 hx;obtain⟨a,e,b,g,h,rfl⟩:=(Yk f G).1 hx;unfold Og at d;rw[K9,Jq,Jq]at d;refine⟨a,e,b,g,h,Prod.ext d.1 d.2,?_⟩;unfold Vd;simp only;rw[c0e hs b.1 b.2.1 b.2.2 rfl]
 .rintro⟨a,e,b,g,h,d,rfl⟩;refine⟨⟨a,BA p a e,(GX (DG (AQ p P a)) (DG (BQ p P a e))).1,(GX (DG (AQ p P a)) (DG (BQ p P a e))).2⟩,Kv.2 ⟨(Yk f G).2 ⟨a,e,b,g,h,rfl⟩,?_⟩,?_⟩
  .have i:GX (DG (AQ p P a)) (DG (BQ p P a e))=(K,C):=d;unfold Og;rw[i];simp
  .unfold Vd;simp only;rw[c0e hs b.1 b.2.1 b.2.2 rfl]
theorem g09{l:List Cr}(h:Sb l):(l.map NB).Nodup:=by rw[List.Nodup,Kg];intro i j b a c e;rw[Ke]at b a;rw[Mp,Mp]at e;have:=h i j c a;rw[Jd,Jd,Je b,Je a]at this;simp only[L4]at this;rw[c5x,e,Rv]at this;omega
theorem nw_nd(b:BO p=0)(G:PlcG p P):((MF p P K C over).map NB).Nodup:=by unfold MF HC;rw[Lh,List.Nodup,Kw];refine List.Pairwise.filter _ ?_;rw[List.pairwise_filterMap];refine List.Pairwise.imp_of_mem (λ{i j} f g k x hx y l e=> ?_) List.nodup_range;obtain⟨c,x2,x3,rfl⟩:=d3f b G (Ki.1 f) hx;obtain⟨a,y2,y3,rfl⟩:=d3f b G (Ki.1 g) l;have hs:=(GC b).1;simp only[Function.comp_def,NB,Vd,J7]at e;rw[c0e hs c.1 c.2.1 c.2.2 rfl,c0e hs a.1 a.2.1 a.2.2 rfl]at e;have d:uA i=uA j:=e.1;have m:uE i=uE j:=e.2;have k1:i%3=DU (uA j%4) (uE j):=(WX (q:=uA j%4) Ok a.2.1 (i%3) E4).1 (by rw[<-d];exact m);have k2:j%3=DU (uA j%4) (uE j):=(WX (q:=uA j%4) Ok a.2.1 (j%3) E4).1 rfl;refine k ?_;rw[<-uMul i,<-uMul j,d,k1,k2]
theorem f0i(d:BO p=0)(G:PlcG p P){c:Cr}(f:c∈MF p P K C over):AR p c.c/\(0<=c.e/\c.e<3)/\AW p.W p.H c.c c.e=0/\EG p.W p.H c.c c.e=c.c/\FK p.W p.H c.c c.e=c.e/\(c.k=1\/c.k=2)/\BB p c.c c.e=0:=by
 obtain⟨a,e,b,g,h,ho,rfl⟩:=(c8a d G).1 f;refine⟨b.1,b.2.1,b.2.2,?_,?_,?_,g⟩
 .unfold EG;rw[Jf b.2.2];have i:a<AH p.W p.H a e:=h;exact Int.min_eq_left (Int.le_of_lt i)
 .unfold FK;rw[Jf b.2.2]
 .show FdG.nkG P over a=1\/FdG.nkG P over a=2;unfold FdG.nkG;split
  .exact .inr rfl
  .exact .inl rfl
theorem b6f(l:List Cr):(ND l).Perm l:=b4w l
theorem f82(d:BO p=0)(h:∀c∈p.l,AD .u8 c.e)(G:PlcG p P):((p.l++MF p P K C over).map NB).Nodup:=by
 rw[Mf,List.nodup_append];refine⟨g09 (b8s d),nw_nd d G,λa i b j e=> ?_⟩;subst e;obtain⟨x,hx,rfl⟩:=Jx.1 i;obtain⟨y,k,e⟩:=Jx.1 j;obtain⟨c1,c2,g,m⟩:=d1y d h hx;obtain⟨d1,d2,d3,d4,d5,d6,f⟩:=f0i d G k;simp only[NB,J7]at e;rw[e.1,e.2]at f;have n:HB (DY p.W p.H x.c x.e) x=true:=by unfold HB DY FK;rw[m,Jf g];simp
 rw[Uv d g hx n]at f;have:=Jy.1 (GC d).2.1 x hx;simp[NN,Qm,f]at this
theorem d74(f:BO p=0)(g:∀c∈p.l,AD .u8 c.e)(G:PlcG p P):BO (FR p P K C over)=0/\∀c∈(FR p P K C over).l,AD .u8 c.e:=by
 obtain⟨hs,o,r,_⟩:=GC f;have s:=b6f (p.l++MF p P K C over);have b:∀c,c∈(FR p P K C over).l↔c∈p.l\/c∈MF p P K C over:=λc=>by show c∈ND _↔_;rw[s.mem_iff,Ka]
 refine⟨?_,λc a=> ?_⟩
 .unfold BO;rw[Jf (show AO (FR p P K C over).W (FR p P K C over).H=0 from hs),Jg,Jg,Jg]
  .intro h;obtain⟨i,t,h⟩:=Jz.1 h;have b8:=Ki.1 t;unfold PG at h;rw[Jq]at h;have:=d23 (d:=d0) (lt:=JF) (key:=NB) f12 (f82 (K:=K) (C:=C) (over:=over) f g G) i (i+1) E4 (by show i+1<(FR p P K C over).l.length;omega);have u:=(c5x _ _).2 this;have h3:Io ((FR p P K C over).l.getD i d0).c ((FR p P K C over).l.getD i d0).e ((FR p P K C over).l.getD (i+1) d0).c ((FR p P K C over).l.getD (i+1) d0).e<0:=u;omega
  .intro h;obtain⟨c,a,h⟩:=Jz.1 h;rcases(b c).1 a with a|a
   .exact Jy.1 r c a h
   .obtain⟨v,w,j,k,m,n,x⟩:=f0i f G a;have y:AW (FR p P K C over).W (FR p P K C over).H c.c c.e=0:=j;have z:EG (FR p P K C over).W (FR p P K C over).H c.c c.e=c.c:=k;have A:FK (FR p P K C over).W (FR p P K C over).H c.c c.e=c.e:=m;unfold QB at h;rw[y,z,A]at h;simp at h
  .intro h;obtain⟨c,a,h⟩:=Jz.1 h;rcases(b c).1 a with a|a
   .exact Jy.1 o c a h
   .obtain⟨v,w,j,k,m,n,x⟩:=f0i f G a;unfold NN Qm at h;rcases n with q|q<;>(rw[q]at h;simp at h)
 .rcases(b c).1 a with a|a
  .exact g c a
  .have:=(f0i f G a).2.1;exact⟨this.1,by show c.e<=255;omega⟩
theorem d3w(hs:AO p.W p.H=0)(G:PlcG p P){i e:Int}(h:CN p i e)(g:BB p i e=0):KC p P K C (BA p i e) e↔KC p P K C i e:=by obtain⟨q1,j,k⟩:=OX hs G h.1 h.2.1 h.2.2 g;have d:AQ p P (BA p i e)=BQ p P i e:=j;have f:BQ p P (BA p i e) e=AQ p P i:=k;have b:=KQ hs G h.1;have a:=Sr (t:=(P i).t) h.2.1;show GX (DG (AQ p P (BA p i e))) (DG (BQ p P (BA p i e) e))=(K,C)↔GX (DG (AQ p P i)) (DG (BQ p P i e))=(K,C);rw[d,f,c7s hs G h.1 h.2.1,d5f b a];have:=d5f (c:=AU (AQ p P i) (Ow (P i).t e)) (UL b a) a;rw[VS b a,(d3v b a).1,(d3v b a).2]at this;rw[this]
theorem fd_K(b:BO p=0)(z:∀c∈p.l,AD .u8 c.e)(G:PlcG p P):FdK p (FR p P K C over) P K C (λi _=>FdG.nkG P over i):=by
 obtain⟨hs,A,hn,_⟩:=GC b;obtain⟨r,gh⟩:=d74 (K:=K) (C:=C) (over:=over) b z G;have B:=b6f (p.l++MF p P K C over);have g:∀c,c∈(FR p P K C over).l↔c∈p.l\/c∈MF p P K C over:=λc=>by show c∈ND _↔_;rw[B.mem_iff,Ka]
 refine⟨rfl,rfl,λi e n o d=> ?_,λi e=> ?_⟩
 .have s:AW (FR p P K C over).W (FR p P K C over).H i e=0:=d;have m:CN p i e:=⟨n,o,d⟩
  have t:DY p.W p.H i e=[min i (BA p i e),e]:=by unfold DY EG FK;rw[if_pos d,if_pos d]
  by_cases k:BB p i e=0
  .rw[Jg (λq=>q k)];obtain⟨E,q2,q3⟩:=OX hs G n o d k;have u:P (BA p i e)=P i:=E;by_cases j:KC p P K C i e
   .rw[Jf j];obtain⟨F,I⟩:=QH hs m;have nq:BA p i e≠i:=λq=>by
     have:=(LO hs n o d).2.1;have J:AH p.W p.H i e=i:=q;rw[J]at this;exact YC (KH hs n) o this.symm
    have hx:∃x∈MF p P K C over,HB (DY p.W p.H i e) x=true/\x.k=FdG.nkG P over i:=by
     by_cases L:i<BA p i e
     .refine⟨⟨i,e,FdG.nkG P over i⟩,(c8a b G).2 ⟨i,e,m,k,L,j,rfl⟩,?_,rfl⟩;unfold HB;rw[t,Int.min_eq_left E4];simp
     .refine⟨⟨BA p i e,e,FdG.nkG P over (BA p i e)⟩,(c8a b G).2 ⟨BA p i e,e,F,by rw[QP hs b m];exact k,by rw[I];omega,(d3w hs G m k).2 j,rfl⟩,?_,?_⟩
      .unfold HB;rw[t,Int.min_eq_right E4];simp
      .show FdG.nkG P over (BA p i e)=_;unfold FdG.nkG;rw[u]
    obtain⟨x,M,N,v⟩:=hx;have:=Uv r s ((g x).2 (.inr M)) N;rw[this,v]
   .rw[Jg j];refine c4g r s ?_;show (FR p P K C over).l.any (HB (DY p.W p.H i e))=false;rw[Jy];intro x hx f;rcases(g x).1 hx with hx|hx
    .have w:=Uv b d hx f;rw[k]at w;have:=Jy.1 A x hx;simp[NN,Qm,<-w]at this
    .obtain⟨a,e',w,h2,h3,y,rfl⟩:=(c8a b G).1 hx;unfold HB at f;rw[t,Jq]at f;simp only[J7]at f;obtain⟨gz,rfl⟩:=f;have O:i=a\/BA p i e=a:=E4;rcases O with rfl|Q
     .exact j y
     .rw[<-Q]at y;exact j ((d3w hs G m k).1 y)
  .rw[Jf k];obtain⟨x,hx,f⟩:=d7c ((WI b d).2 k);rw[Uv b d hx f];exact Uv r s ((g x).2 (.inl hx)) f
 .show FdG.nkG P over i≠0;unfold FdG.nkG;split<;>omega
end
def EA:RT Pas:=⟨4,λx=>[.int .i64 x.a,.int .i64 x.b,.int .u8 x.K,.int .i64 x.C],λl=>match l with
 | [.int _ a,.int _ b,.int _ c,.int _ d]=>⟨a,b,c,d⟩
 |_=>⟨0,0,0,0⟩,⟨0,0,0,0⟩,λ_=>rfl⟩
section
variable{p:Pt}{r:Mv}{P:Int->Mv}
theorem f10{j:Nat}(h:PR p P j=none):HC p P (j+1)=HC p P j:=by unfold HC;rw[List.range_succ,List.filterMap_append];simp[h]
theorem f1z{j:Nat}{x:Pas}(h:PR p P j=some x):HC p P (j+1)=HC p P j++[x]:=by unfold HC;rw[List.range_succ,List.filterMap_append];simp[h]
theorem d33(n:Nat):(HC p P n).length<=n:=by unfold HC;refine Lk (List.length_filterMap_le _ _) ?_;simp
theorem f1p{a k:Nat}(hk:k<3):uA (3*a+k)=a/\(3*a+k)%3=k:=by
 constructor
 .show (((3*a+k)/3:Nat):Int)=a;omega
 .omega
theorem pas_no{a k:Nat}(b:k<3)(h:BL p.W p.H a k<a\/¬KG p.W p.H p.l (3*a+k)=0):PR p P (3*a+k)=none:=by unfold PR;rw[(f1p b).1,(f1p b).2,Jf h]
theorem g1d{a k:Nat}(b:k<3)(h:¬BL p.W p.H a k<a/\KG p.W p.H p.l (3*a+k)=0):PR p P (3*a+k)=some ⟨a,BL p.W p.H a k,(GX (DG (AQ p P a)) (DG (AQ p P (BL p.W p.H a k)))).1,(GX (DG (AQ p P a)) (DG (AQ p P (BL p.W p.H a k)))).2⟩:=by unfold PR;rw[(f1p b).1,(f1p b).2,Jg E4]
theorem d3d{j:Nat}(a:j<3*AF p.W p.H):(JA p).getD j Pw.d=KG p.W p.H p.l j:=by unfold JA;rw[Jd,K1,Nr a];rfl
end
theorem sq_le{t X Y:Int}(hx:0<=X/\X<=300)(hy:0<=Y/\Y<=300):(-400<=(sq t X Y).1/\(sq t X Y).1<=400)/\ -400<=(sq t X Y).2/\(sq t X Y).2<=400:=by
 unfold sq;repeat' split
 all_goals(dsimp only;omega)
theorem f4s{p:Pt}{P:Int->Mv}(hs:AO p.W p.H=0){a:Int}(b:AR p a):DG (AQ p P a)=((sq (P a).t (a/4%p.W) (a/4/p.W)).1+(P a).x,(sq (P a).t (a/4%p.W) (a/4/p.W)).2+(P a).y,tq (P a).t (a%4)):=by unfold AQ DG AV;rw[JL hs b.1 b.2]
def rPs28(p:Pt)(r:Mv):SV:=.sl 4 (HC p (AM p r) (3*AF p.W p.H)).length (EA.row (HC p (AM p r) (3*AF p.W p.H))) none
def Vb:AK
 | [x]=>(Fo x).map λq=>(q.1/\CF q.2.1 q.2.2.1=0,rPs28 q.2.1 q.2.2.1)
 |_=>none
def FPs28:Fam:=⟨Pt×Mv×List Stk,λ(p,r,L)=>[.agg (BD p r L)],λ(p,r,L)=>(prOK p r/\EV L)/\CF p r=0,λ(p,r,_)=>rPs28 p r⟩
def psEn(p:Pt)(r:Mv)(a:List Entry):List Entry:=a++[⟨6,none,.osl 1⟩,⟨5,none,.sl 1 (JA p).length (Pw.row (JA p)) none⟩,⟨3,none,.sl 3 (BR p r).length (AE.row (BR p r)) none⟩,⟨1,none,.own 0 0⟩]
def XT(p:Pt)(r:Mv)(L:List Stk)(n:Nat):List Blk:=[.cells 34 (BD p r L),.row 142 4 (HC p (AM p r) n).length (EA.row (HC p (AM p r) n)) none]
def IPs28:Pt×Mv×List Stk->Nat->Option Inv
 |(p,r,L),5=>some {β:=Nat,ok:=λa=>a<=AF p.W p.H,st:=λa=>⟨psEn p r [⟨7,none,.int .i64 a⟩],XT p r L (3*a)⟩,μ:=λa=>AF p.W p.H-a,nl:=[.slot 6 142 4],sub:=λa=>some fun
  |8=>some {β:=Nat,ok:=λk=>k<=3/\a<AF p.W p.H,st:=λk=>⟨psEn p r [⟨8,none,.int .i64 k⟩,⟨7,none,.int .i64 a⟩],XT p r L (3*a+k)⟩,μ:=λk=>3-k}
  |_=>none}
 |_,_=>none
theorem pFPs28:PF 66 Vb:=by
 refine conF {l:=[(14,YF),(40,Wp),(41,Tn),(43,Sg),(18,UO),(94,d7s)]} ⟨by simpa using⟨pPl25,pTab,f03,Wr,pImg,pBe28⟩,E6,E6⟩ FPs28 IPs28 Vb ?_ ?_ Tryz.func66 E5 E5 E5 ?_
 .intro args pre s h hp;unfold Vb at h;split at h
  .simp only[Iq]at h;obtain⟨⟨q,p,r,L⟩,hx,rfl,rfl⟩:=h;obtain⟨h1,h2,h3⟩:=Ll hx hp.1;exact Dx
  .cases h
 .exact C4
 .rintro⟨p,r,L⟩ ⟨⟨⟨⟨K,M⟩,w⟩,hL⟩,o⟩;obtain⟨z,hmv,_,_⟩:=Ua o;obtain⟨G,G0,v⟩:=f44 w.1 o;have Q:=Rt w.1 o;have fw:=Q.pl;have hs:=(GC z).1;have hN:=CQ hs;have Y8:=b4c p;refine X0a _ ?_;(repeat' first|constructor|intro h)<;>refine Lm ?_
  all_goals(try simp only[CR,Qb,QJ]at*)
  all_goals(try first
   |exact⟨⟨⟨⟨EC _,K⟩,M⟩,w⟩,o⟩
   |exact⟨⟨EC _,K⟩,M,z⟩)
  refine⟨(0:Nat),Js _,?_,?_⟩
  .exact X1b
  .intro a N;replace N:a<=AF p.W p.H:=N;refine X0a _ ?_;(repeat' first|constructor|intro h)<;>refine Lm ?_
   all_goals(try simp only[In]at*)
   all_goals(try first|exact As)
   .have A:a<AF p.W p.H:=E4;refine⟨(0:Nat),⟨by show 0<=3;omega,A⟩,?_,?_⟩
    .exact X1c
    .intro k B;replace B:k<=3/\a<AF p.W p.H:=B;obtain⟨k1,_⟩:=B;have f:AR p (a:Int):=⟨E4,E4⟩
     have hj:k<3->3*a+k<3*AF p.W p.H:=λh=>E4;have S:(3*(a:Int)+(k:Int)).toNat=3*a+k:=E4;have O:=v a f;have T:=KD O;have hxa:=KR O;unfold CM at T;have hpls:∀u,AR p u->(BR p r).getD u.toNat AE.d=AM p r u:=λu _=>rfl;have hw:=Ho hs;have C:∀u,AR p u->(0<=u/4%p.W/\u/4%p.W<=300)/\(0<=u/4/p.W/\u/4/p.W<=300)/\0<=u%4/\u%4<=3:=λu b=>by have:=PP hs b.1 b.2;rw[JL hs b.1 b.2]at this;exact this
     have U:(BR p r).getD a AE.d=AM p r a:=by unfold AM;rw[Int.toNat_natCast]
     have E:(BR p r).getD (BL p.W p.H a k).toNat AE.d=AM p r (BL p.W p.H a k):=rfl;have g:∀u,AR p u->((0<=(AM p r u).t/\(AM p r u).t<=7)/\((-50000<=(AM p r u).x/\(AM p r u).x<=50000)/\ -50000<=(AM p r u).y/\(AM p r u).y<=50000)/\(-30000<=u/4%p.W/\u/4%p.W<=30000)/\(-30000<=u/4/p.W/\u/4/p.W<=30000)/\0<=u%4/\u%4<=3)/\(-30000<=(sq (AM p r u).t (u/4%p.W) (u/4/p.W)).1+(AM p r u).x/\(sq (AM p r u).t (u/4%p.W) (u/4/p.W)).1+(AM p r u).x<=30000)/\(-30000<=(sq (AM p r u).t (u/4%p.W) (u/4/p.W)).2+(AM p r u).y/\(sq (AM p r u).t (u/4%p.W) (u/4/p.W)).2+(AM p r u).y<=30000)/\0<=tq (AM p r u).t (u%4)/\tq (AM p r u).t (u%4)<=3:=λu b=>by have h1:=KD (v u b);have h2:=KR (v u b);have h3:=C u b;have h4:=@sq_le (AM p r u).t _ _ h3.1 h3.2.1;have V:=f1t (FW (v u b)) h3.2.2;unfold CM at h1;refine⟨⟨h1,⟨E4,E4⟩,E4,E4,E4⟩,E4,E4,V⟩
     have m:=g a f;have F:k<3->¬BL p.W p.H a k<a->AR p (BL p.W p.H a k):=λh1 h2=>(pl_nb z f h1 E4).2.2.1;refine X0a _ ?_;(repeat' first|constructor|intro h)<;>refine Lm ?_
     all_goals(try simp only[In,S,U,E,Iy,Ip]at*)
     all_goals(try first
      |exact As
      |exact⟨hs,f.1,f.2⟩
      |(intro _;exact⟨E4,E4⟩)
      |exact Ar)
     .refine⟨k+1,⟨Ew,A⟩,Ex,?_⟩;have h3:k<3:=E4;rw[d3d (hj h3)]at h;have e:=f10 (P:=AM p r) (pas_no h3 h);rw[Lu]at e;dsimp only[XT];rw[e];exact X1e
     all_goals
      first
       |(have h3:k<3:=by omega
         have I:=F h3 h.1;have J:=I;unfold AR at J;have n:=g _ I;first
          |exact B8
          |exact m.1
          |exact n.1
          |exact Au
          |exact⟨m.2,n.2⟩
          |(have:=@d33 p (AM p r) (3*a+k);refine⟨E4,?_⟩;exact MK E5 E4)
          |(rw[d3d (hj h3)]at h
            refine⟨k+1,⟨Ew,A⟩,Ex,?_⟩;have e:=f1z (P:=AM p r) (g1d h3 h);rw[f4s hs f,f4s hs I,Lu]at e;dsimp only[XT];rw[e,Kj,M2];all_goals refine X0a _ ?_;(repeat' first|constructor|intro h)<;>refine Lm ?_
            all_goals first|exact At|exact Vv (R:=EA) rfl|skip))
       |(have h3:k=3:=by omega
         subst h3;refine⟨a+1,by show a+1<=_;omega,by show AF p.W p.H-(a+1)<AF p.W p.H-a;omega,?_⟩;have e:3*(a+1)=3*a+3:=E4;dsimp only[XT];rw[e];all_goals refine X0a _ ?_;(repeat' first|constructor|intro h)<;>refine Lm ?_
         all_goals first|exact At|skip)
       |skip
   all_goals
    have X:a=AF p.W p.H:=E4;subst X;first|exact Aa|skip
theorem pPs28:PS 66 Vb:=pFPs28.1
theorem af_lt(x y:Stk):af28 (x.c.x,x.c.y,x.c.q) (y.c.x,y.c.y,y.c.q)=1↔AP y x=true:=by
 rw[Wh,Jq];have:AZ (BC y.c) (BC x.c)<0↔y.c.y<x.c.y\/x.c.y=y.c.y/\(y.c.x<x.c.x\/x.c.x=y.c.x/\y.c.q<x.c.q):=by
  simp only[BC,AZ,CT];repeat' split
  all_goals omega
 rw[this];unfold af28;dsimp only;split<;>simp_all
def f1y:HK:=λa own=>match a,own with
 | [x],[]=>(IQ x).map λq=>⟨q.1,.osl 0,[.row CI 4 q.2.length (AA.row (NI q.2)) none],[]⟩
 |_,_=>none
def FHSo28:FamH:=⟨List Stk,λL=>[FI L],λ_=>[],λL=>ET L,λ_=>.osl 0,λL=>[.row CI 4 L.length (AA.row (NI L)) none],[]⟩
def soSt(L M:List Stk)(a:List Entry):List Entry×List Blk:=(a++[⟨3,none,.osl 0⟩],[.row CI 4 L.length (AA.row M) none])
def ISo28(L:List Stk):Nat->Option Inv
 |3=>some {β:=Nat×List Stk,ok:=λ(i,M)=>1<=i/\i<=L.length+1/\Sub M L/\GO AA.d AP 0 (L.length-i) i M=NI L,st:=λ(i,M)=>⟨(soSt L M [⟨4,none,.int .i64 i⟩]).1,(soSt L M []).2⟩,μ:=λ(i,_)=>L.length-i,sub:=λ(i,_)=>some fun
  |6=>some {β:=Nat×List Stk,ok:=λ(j,M)=>j<=i/\i<L.length/\Sub M L/\GO AA.d AP 0 (L.length-(i+1)) (i+1) (FN AA.d AP 0 j M)=NI L,st:=λ(j,M)=>⟨(soSt L M [⟨5,none,.int .i64 j⟩,⟨4,none,.int .i64 i⟩]).1,(soSt L M []).2⟩,μ:=λ(j,_)=>j}
  |_=>none}
 |_=>none
theorem pHSo28:HS 68 f1y:=by
 refine HX {l:=[(95,d9y)]} ⟨by simpa using pAf28,E6,E6⟩ FHSo28 ISo28 f1y ?_ ?_ ?_ Tryz.func68 E5 E5 E5 ?_
 .intro args own r h b;unfold f1y at h;split at h
  .simp only[Jk]at h;obtain⟨⟨q,L⟩,hx,rfl⟩:=h;obtain⟨v,w⟩:=LD hx b;exact⟨L,⟨v,Ji⟩,rfl,Ji,w,rfl,rfl,rfl⟩
  .cases h
 .exact C4
 .exact Ch
 .intro(L:List Stk) μ b;replace b:ET L:=b;have hL:=b.1;refine X0b _ ?_;(repeat' first|constructor|intro h)<;>refine Lm ?_
  all_goals(try simp only[]at*)
  all_goals(try first
   |exact Ay)
  all_goals(try(refine⟨E4,?_⟩;exact MK E5 E4))
  refine⟨(1,L),⟨Jm _,by show 1<=L.length+1;omega,Sub.refl L,rfl⟩,?_,?_⟩
  .exact X2b
  .rintro⟨i,M⟩ c;replace c:1<=i/\i<=L.length+1/\Sub M L/\GO AA.d AP 0 (L.length-i) i M=NI L:=c;obtain⟨i1,i2,m,i4⟩:=c;refine X0b _ ?_;(repeat' first|constructor|intro h)<;>refine Lm ?_
   all_goals(try simp only[In]at*)
   all_goals(try first
    |exact Ay)
   .have x:i<L.length:=E4;refine⟨(i,M),⟨Jm _,x,m,?_⟩,?_,?_⟩
    .exact Dy
    .exact X2a
    .rintro⟨j,K⟩ f;replace f:j<=i/\i<L.length/\Sub K L/\GO AA.d AP 0 (L.length-(i+1)) (i+1) (FN AA.d AP 0 j K)=NI L:=f;obtain⟨j1,y,g,n⟩:=f;have hK:=g.1;have o:((j:Int)-1).toNat=j-1:=E4;have s:=af_lt (K.getD (j-1) AA.d) (K.getD j AA.d);by_cases k:0<j/\AP (K.getD j AA.d) (K.getD (j-1) AA.d)=true
     .obtain⟨z,t⟩:=k;have A:=s.2 t;refine X0b _ ?_;(repeat' first|constructor|intro h)<;>refine Lm ?_
      all_goals(try simp only[In,It,o]at*)
      all_goals(try first
       |omega
       |exact C2
       |(exfalso;rcases h with h|h;omega;exact h A)
       |exact Ai
       |(show j<L.length;omega)
       |(show j-1<L.length;omega))
      have hs:=RH (d:=AA.d) (l:=K) (i:=j-1) (j:=j) E4 E4;have u:DK AA.d K (j-1) j=DK AA.d K j (j-1):=by unfold DK;exact List.set_comm _ _ E4
      all_goals
       refine⟨(j-1,DK AA.d K (j-1) j),⟨by show j-1<=i;omega,y,hs.trans g,?_⟩,by show j-1<j;omega,?_⟩
       .rw[<-n,c1j z t,u]
       .refine X0b _ ?_;(repeat' first|constructor|intro h)<;>refine Lm ?_
        all_goals first
         |exact Bi
         |exact Bt
         |(intro q _;left;rw[u];exact d42 E4 E4)
         |skip
     .refine X0b _ ?_;(repeat' first|constructor|intro h)<;>refine Lm ?_
      all_goals(try simp only[In,It,o]at*)
      all_goals(try first
       |omega
       |(exfalso;exact k ⟨E4,s.1 h.2⟩)
       |exact Ai)
      have e:FN AA.d AP 0 j K=K:=b7f k;all_goals
       refine⟨(i+1,K),⟨by show 1<=i+1;omega,by show i+1<=L.length+1;omega,g,by rw[<-n,e]⟩,Gw,?_⟩;all_goals exact X2b
   all_goals
    have e:GO AA.d AP 0 (L.length-i) i M=M:=by rw[show L.length-i=0 from E4];rfl
    have B:NI L=M:=by rw[<-i4,e]
    rw[B];first|exact m.1.symm|exact A8|rfl|skip
theorem f27(L:List Stk):(NI L).length=L.length:=(c1g L).length_eq
abbrev VT:TypeId:=51
theorem d0eq:DR.d=d0:=rfl
theorem ov_cr(b:Bool)(L:List Cr)(i:Nat)(x y:Cr):over (DW b (DR.sv x) (DR.row L i)) 0 (DR.sv y)=DR.sv y:=by cases b<;>rfl
theorem ov_cr0(L:List Cr)(i:Nat)(y:Cr):over (DR.row L i) 0 (DR.sv y)=DR.sv y:=rfl
theorem f3d{L:List Cr}{i j q:Nat}(hi:i<L.length)(c:j<L.length):
 DW (decide (q=j)) (over (DW (decide (j=i)) (over (DR.row L i) 0 (DR.sv (L.getD j DR.d))) (DR.row L j)) 0 (DR.sv (L.getD i DR.d))) (DW (decide (q=i)) (over (DR.row L i) 0 (DR.sv (L.getD j DR.d))) (DR.row L q))=DR.row (DK DR.d L i j) q:=by
 rw[ov_cr0,ov_cr];have e:DR.row (DK DR.d L i j) q=DR.sv ((DK DR.d L i j).getD q DR.d):=rfl;rw[e,b6m hi c];by_cases b:q=j
 .rw[Jf b,K2 b];by_cases a:q=i
  .rw[K2 a];rfl
  .rw[K5 a];rfl
 .rw[Jg b,K5 b];by_cases a:q=i
  .rw[Jf a,K2 a];rfl
  .rw[Jg a,K5 a];rfl
theorem f1i{j:Nat}{M:List Cr}(b:0<j)(a:JF (M.getD j d0) (M.getD (j-1) d0)=true):FN d0 JF 0 j M=FN d0 JF 0 (j-1) (DK d0 M j (j-1)):=by
 obtain⟨k,rfl⟩:∃k,j=k+1:=⟨j-1,E4⟩
 simp only[Nu]at a⊢;rw[FN,Jf ⟨b,a⟩]
theorem d5y{j:Nat}{M:List Cr}(h:¬(0<j/\JF (M.getD j d0) (M.getD (j-1) d0)=true)):FN d0 JF 0 j M=M:=by
 cases j with
 |zero=>rfl
 |succ k=>
  simp only[Nu]at h;rw[FN,Jg h]
theorem d82(x y:Cr):JF y x=true↔(y.c<x.c\/(x.c=y.c/\y.e<x.e)):=by
 unfold JF;rw[Kk,K9,Jq,Jq,Jq];constructor
 .rintro(h|⟨a,b⟩)
  .exact .inl h
  .exact .inr ⟨a.symm,b⟩
 .rintro(h|⟨a,b⟩)
  .exact .inl h
  .exact .inr ⟨a.symm,b⟩
def d9h:HK:=λa own=>match a,own with
 | [.osl 0],[.row T 3 n g _]=>if T=VT then some ⟨DR.isL n g/\n<=1000000,.osl 0,[.row VT 3 (DR.lst n g).length (DR.row (ND (DR.lst n g))) none],[]⟩else none
 |_,_=>none
def FOr28:FamH:=⟨List Cr,λ_=>[.osl 0],λl=>[.row VT 3 l.length (DR.row l) none],λl=>l.length<=1000000,λ_=>.osl 0,λl=>[.row VT 3 l.length (DR.row (ND l)) none],[]⟩
def IOr28(L:List Cr):Nat->Option Inv
 |2=>some {β:=Nat×List Cr,ok:=λ(i,M)=>1<=i/\i<=L.length+1/\Sub M L/\GO d0 JF 0 (L.length-i) i M=ND L,st:=λ(i,M)=>⟨[⟨3,none,.int .i64 i⟩,⟨0,none,.osl 0⟩],[.row VT 3 L.length (DR.row M) none]⟩,μ:=λ(i,_)=>L.length-i,sub:=λ(i,_)=>some fun
  |5=>some {β:=Nat×List Cr,ok:=λ(j,M)=>j<=i/\i<L.length/\Sub M L/\GO d0 JF 0 (L.length-(i+1)) (i+1) (FN d0 JF 0 j M)=ND L,st:=λ(j,M)=>⟨[⟨4,none,.int .i64 j⟩,⟨3,none,.int .i64 i⟩,⟨0,none,.osl 0⟩],[.row VT 3 L.length (DR.row M) none]⟩,μ:=λ(j,_)=>j}
  |_=>none}
 |_=>none
theorem pOr28:HS 69 d9h:=by
 refine HX {} ⟨E6,E6,E6⟩ FOr28 IOr28 d9h ?_ ?_ ?_ Tryz.func69 E5 E5 E5 ?_
 .intro args own r h b;unfold d9h at h;split at h
  .rename_i T n g c;split at h
   .rename_i y;subst y;cases h;exact⟨DR.lst n g,⟨Ec,Ji⟩,rfl,⟨⟨Ev,(RT.lst_length DR n g).symm,Ji,RT.row_isL DR b.1⟩,Ji⟩,by simp only[FOr28,RT.lst_length];exact b.2,rfl,rfl,rfl⟩
   .cases h
  .cases h
 .exact C4
 .exact Ca
 .intro(L:List Cr) μ b;replace b:L.length<=1000000:=b;refine X0b _ ?_;(repeat' first|constructor|intro h)<;>refine Lm ?_
  all_goals(try(simp only[];omega))
  refine⟨(1,L),⟨Jm _,by show 1<=L.length+1;omega,Sub.refl L,rfl⟩,?_,?_⟩
  .exact X2b
  .rintro⟨i,M⟩ f;replace f:1<=i/\i<=L.length+1/\Sub M L/\GO d0 JF 0 (L.length-i) i M=ND L:=f;obtain⟨i1,i2,s,i4⟩:=f;refine X0b _ ?_;(repeat' first|constructor|intro h)<;>refine Lm ?_
   all_goals(try simp only[In]at*)
   all_goals(try first
    |exact Ay)
   .have z:i<L.length:=E4;refine⟨(i,M),⟨Jm _,z,s,?_⟩,?_,?_⟩
    .exact Dy
    .exact X2a
    .rintro⟨j,K⟩ k;replace k:j<=i/\i<L.length/\Sub K L/\GO d0 JF 0 (L.length-(i+1)) (i+1) (FN d0 JF 0 j K)=ND L:=k;obtain⟨j1,A,m,t⟩:=k;have hK:=m.1;have u:((j:Int)-1).toNat=j-1:=E4;have v:=d82 (K.getD (j-1) d0) (K.getD j d0);by_cases o:0<j/\JF (K.getD j d0) (K.getD (j-1) d0)=true
     .obtain⟨B,w⟩:=o;have C:=v.1 w;refine X0b _ ?_;(repeat' first|constructor|intro h)<;>refine Lm ?_
      all_goals(try simp only[In,It,Iy,u,d0eq]at*)
      all_goals(try first
       |omega
       |exact C2
       |(exfalso;rcases h with h|h;omega;exact h C)
       |exact Ai
       |(show j<L.length;omega)
       |(show j-1<L.length;omega))
      have hs:=RH (d:=d0) (l:=K) (i:=j-1) (j:=j) E4 E4;have x:DK d0 K (j-1) j=DK d0 K j (j-1):=by unfold DK;exact List.set_comm _ _ E4
      all_goals
       refine⟨(j-1,DK d0 K (j-1) j),⟨by show j-1<=i;omega,A,hs.trans m,?_⟩,by show j-1<j;omega,?_⟩
       .rw[<-t,f1i B w,x]
       .refine X0b _ ?_;(repeat' first|constructor|intro h)<;>refine Lm ?_
        all_goals first
         |exact Bi
         |(intro q _;left;exact f3d E4 E4)
         |(intro q _;left;rw[x];exact f3d E4 E4)
         |skip
     .refine X0b _ ?_;(repeat' first|constructor|intro h)<;>refine Lm ?_
      all_goals(try simp only[In,It,Iy,u,d0eq]at*)
      all_goals(try first
       |omega
       |(exfalso;exact o ⟨E4,v.2 h.2⟩)
       |exact Ai)
      have e:FN d0 JF 0 j K=K:=d5y o;all_goals
       refine⟨(i+1,K),⟨by show 1<=i+1;omega,by show i+1<=L.length+1;omega,m,by rw[<-t,e]⟩,Gw,?_⟩;all_goals exact X2b
   all_goals
    have e:GO d0 JF 0 (L.length-i) i M=M:=by rw[show L.length-i=0 from E4];rfl
    have E:ND L=M:=by rw[<-i4,e]
    rw[E];first|exact s.1.symm|exact A8|rfl|skip
def YO(p:Pt)(P:Int->Mv)(K C:Int):Prop:=∃a e,CN p a e/\BB p a e=0/\KC p P K C a e
section
variable{p:Pt}{r:Mv}{L:List Stk}{P:Int->Mv}{B K C sd:Int}
theorem ci_K{c:Cl}{e:Int}(a:BH c)(b:0<=e/\e<3):1<=CW c.q e/\CW c.q e<=4:=by obtain⟨X,Y,Q⟩:=c;rcases EW a with h|h|h|h<;>rcases GZ b with rfl|rfl|rfl<;>(simp only at h;subst h;simp[CW,IC,tb])
theorem ref_bd{c d:Cl}{e:Int}(a:BH c)(b:0<=e/\e<3)(f:(-B<=c.x/\c.x<=B)/\ -B<=c.y/\c.y<=B)(g:(-B<=d.x/\d.x<=B)/\ -B<=d.y/\d.y<=B):(-(3*B+2)<=(AV (Al (CW c.q e) (DA c.x c.y c.q e)) d).x/\(AV (Al (CW c.q e) (DA c.x c.y c.q e)) d).x<=3*B+2)/\ -(3*B+2)<=(AV (Al (CW c.q e) (DA c.x c.y c.q e)) d).y/\(AV (Al (CW c.q e) (DA c.x c.y c.q e)) d).y<=3*B+2:=by obtain⟨X,Y,Q⟩:=c;obtain⟨Z,W,R⟩:=d;rcases EW a with h|h|h|h<;>rcases GZ b with rfl|rfl|rfl<;>(simp only at h f g;subst h;simp[Al,DN,CW,DA,IC,JU,AV,sq,tb];omega)
theorem f9b{over:Bool}(d:1<=K/\K<=4)(a:sd=0\/sd=1)(f:CK L)(g:∀s∈L,BH s.c)(i:∀s∈L,s.l≠[]):AX (JV over K C sd L)=EM (AX L) K C sd over:=by
 obtain⟨j,h2,k,h4⟩:=@f4e over K C sd L d a f g i;funext c;by_cases b:BH c
 .exact j c b
 .have m:EM (AX L) K C sd over c=[]:=by unfold EM;rw[if_neg (λh=>b h.1)]
  rw[m];rcases RI (JV over K C sd L) c with⟨s,hs,e⟩|h
  .exact absurd (e▸(k s hs).2) b
  .exact h
theorem StG.fold(X:StG p r L P B)(j:∀c∈p.l,AD .u8 c.e)(u:YO p P K C)(b:sd=0\/sd=1)(over:Bool):(1<=K/\K<=4)/\StG (FR p P K C over) (FH p P K C sd 0) (JV over K C sd L) (FH p P K C sd) (3*B+2):=by
 have hs:=X.hs;obtain⟨a,e,d,ka,v⟩:=u;have k:=KQ hs X.G d.1;have m:=Sr (t:=(P a).t) d.2.1;obtain⟨n,w⟩:=(YR hs X.G d.1 d.2.1).1 v;have f:1<=K/\K<=4:=by rw[<-n];exact ci_K k m
 obtain⟨o,gh⟩:=d74 (K:=K) (C:=C) (over:=over) X.hp j X.G;have D:FdG p (FR p P K C over) P (AX L) K C sd (λi _=>FdG.nkG P over i):=⟨hs,X.hp,X.G,X.S,f,b,fd_K X.hp j X.G⟩
 obtain⟨f1,f2,x,y⟩:=@f4e over K C sd L f b X.cells (λs h=>X.cQ h) X.ne;have g:=@f9b L K C sd over f b X.cells (λs h=>X.cQ h) X.ne;refine⟨f,o,D.G',rfl,λi z=> ?_,y,λs h=>(x s h).1,?_,?_,?_⟩
 .have q:AR p i:=z;have A:=X.bd a d.1;have E:=X.bd i q;have:=ref_bd (B:=B) k m A E;rw[n,w]at this;have F:=Vj (p':=FR p P K C over) (K:=K) (C:=C) (sd:=sd) hs X.G q rfl rfl;rw[F];split
  .exact this
  .omega
 .rw[g];exact D.S' over
 .rw[g];exact D.nc o X.N over
 .rw[g];exact D.kinds over (λi e _ _=>rfl) X.D
end
def CC(W H:Int):List Stk:=(List.range (AF W H)).map λi:Nat=>⟨AJ W H (i:Int),[(i:Int)]⟩
theorem g1q{W H:Int}(hs:AO W H=0){i j:Int}(d:0<=i)(h:i<j)(e:j<4*W*H):AZ (BC (AJ W H i)) (BC (AJ W H j))<0:=by
 have hw:=Ho hs;rw[JL hs d E4,JL hs E4 e];simp only[BC,AZ,CT];have c:=Mt (i/4) W;have e2:=Mt (j/4) W;have m1:=Mr (i/4) (b:=W) E4;have m2:=Mr (j/4) (b:=W) E4;have n1:=My (i/4) (b:=W) E4;have n2:=My (j/4) (b:=W) E4;have f:i/4<=j/4:=E4;have hy:i/4/W<=j/4/W:=Int.ediv_le_ediv E4 f;by_cases q:i/4/W=j/4/W
 .rw[Jf q];have hx:i/4%W<=j/4%W:=by
   rw[q]at c;omega
  by_cases a:i/4%W=j/4%W
  .rw[Jf a];have:i/4=j/4:=by
    rw[q,a]at c;omega
   have:i%4<j%4:=E4;rw[Jg E4,Jf this];decide
  .rw[Jg a,Jf E4];decide
 .rw[Jg q,Jf E4];decide
theorem c6z{c:Cl}(a:BH c):AV CV c=c:=by obtain⟨x,y,q⟩:=c;rcases EW a with h|h|h|h<;>(simp only at h;subst h;simp[AV,CV,sq,tq,tb])
theorem d2b{W H B:Int}(hs:AO W H=0)(hB:W<=B+1/\H<=B+1):StG ⟨W,H,[]⟩ CV (CC W H) (λ_=>CV) B:=by
 have hN:=CQ hs;have z:BO ⟨W,H,[]⟩=0:=by unfold BO;rw[Jf (show AO W H=0 from hs)];simp
 have J:∀i e,AW W H i e=0->BB ⟨W,H,[]⟩ i e=0:=λi e t=>c4g (p:=⟨W,H,[]⟩) z t rfl;have u:∀i,AR ⟨W,H,[]⟩ i->AQ ⟨W,H,[]⟩ (λ_=>CV) i=AJ W H i:=λi f=>c6z (KH (p:=⟨W,H,[]⟩) hs f);have A:∀i:Nat,i<AF W H->(CC W H).getD i AA.d=⟨AJ W H i,[(i:Int)]⟩:=λi f=>by unfold CC;simp[f]
 have K:(CC W H).length=AF W H:=by unfold CC;simp
 have lt:∀i j,i<j->j<(CC W H).length->AZ (BC ((CC W H).getD i AA.d).c) (BC ((CC W H).getD j AA.d).c)<0:=λi j g o=>by rw[K]at o;rw[A i E4,A j o];exact g1q hs E4 E4 E4
 have w:=c8r lt;have mm:∀s∈CC W H,∃i:Nat,i<AF W H/\s=⟨AJ W H i,[(i:Int)]⟩:=λs hs'=>by unfold CC at hs';obtain⟨i,f,rfl⟩:=Jx.1 hs';exact⟨i,Ki.1 f,rfl⟩
 have one:∀c,(AX (CC W H) c).length<=1:=λc=>by
  rcases RI (CC W H) c with⟨s,g,rfl⟩|h
  .rw[Qf w g];obtain⟨i,_,rfl⟩:=mm s g;exact C6
  .rw[h];exact Js _
 have n:∀c x y,¬CX (AX (CC W H) c) x y:=λc x y h=>by have:=h.length_le;have:=one c;simp at*;omega
 refine⟨z,⟨λi f=>⟨by unfold CM CV;simp,by unfold MN CV;simp⟩,λi e f he t=>by rw[if_pos (J i e t)]⟩,rfl,λi f=> ?_,lt,λs hs'=> ?_,⟨λc=> ?_,λc v=> ?_⟩,⟨λi e j k f hj L kj C r=>absurd r (n _ _ _),λi e a k f E L F C g o=>absurd g (n _ _ _),λa k b m E r F kb C g o h3=>absurd g (n _ _ _)⟩,λa k E F r=>absurd r (n _ _ _)⟩
 .rw[u i f];have G:=JJ hs f.1 f.2;have mw:(0<=(AJ W H i).x/\(AJ W H i).x<W)/\(0<=(AJ W H i).y/\(AJ W H i).y<H):=⟨G.1,G.2.1⟩
  omega
 .obtain⟨i,_,rfl⟩:=mm s hs';simp
 .have:=one c;match hl:AX (CC W H) c with
  | []=>exact Na
  | [x]=>simp
  |x::y::l=>rw[hl]at this;simp at this
 .constructor
  .intro q;rcases RI (CC W H) c with⟨s,g,rfl⟩|h
   .rw[Qf w g]at q;obtain⟨i,f,rfl⟩:=mm s g;simp only[K4]at q;subst q;have I:AR ⟨W,H,[]⟩ (i:Int):=⟨E4,by show (i:Int)<4*W*H;omega⟩
    exact⟨I,u _ I⟩
   .rw[h]at q;simp at q
  .rintro⟨g,o⟩;rw[u v g]at o;have j8:0<=v/\v<4*W*H:=g;have M:(⟨AJ W H v,[v]⟩:Stk)∈CC W H:=by
    unfold CC;refine Jx.2 ⟨v.toNat,Ki.2 E4,?_⟩;rw[show ((v.toNat:Nat):Int)=v from E4]
   have:=Qf w M;rw[<-o];rw[this];simp
def rFl28(W H:Int):SV:=.agg (BD ⟨W,H,[]⟩ CV (CC W H))
def g1k:AK
 | [.int .i64 W,.int .i64 H]=>some (AO W H=0,rFl28 W H)
 |_=>none
def f7x:HK:=λa own=>match a,own with
 | [.int .i64 W,.int .i64 H],[]=>some ⟨AO W H=0,.agg [.int .i64 W,.int .i64 H,.con (.slice none 0 0),.int .u8 0,.int .i64 0,.int .i64 0,.osl 0],[.row CI 4 (CC W H).length (AA.row (CC W H)) none],[]⟩
 |_,_=>none
def FFl28:FamH:=⟨Int×Int,λ(W,H)=>[.int .i64 W,.int .i64 H],λ_=>[],λ(W,H)=>AO W H=0,λ(W,H)=>.agg [.int .i64 W,.int .i64 H,.con (.slice none 0 0),.int .u8 0,.int .i64 0,.int .i64 0,.osl 0],λ(W,H)=>[.row CI 4 (CC W H).length (AA.row (CC W H)) none],[]⟩
def IFl28:Int×Int->Nat->Option Inv
 |(W,H),3=>some {β:=Nat,ok:=λi=>i<=AF W H,st:=λi=>⟨[⟨6,none,.int .i64 i⟩,⟨5,none,.own 1 0⟩,⟨4,none,.own 0 0⟩,⟨1,none,.int .i64 H⟩,⟨0,none,.int .i64 W⟩],[.cells 34 [.int .i64 0,.int .i64 0,.con (.slice none 0 0),.int .u8 0,.int .i64 0,.int .i64 0,.con (.slice none 0 0)],.cells 34 [.int .i64 W,.int .i64 H,.con (.slice none 0 0),.int .u8 0,.int .i64 0,.int .i64 0,.osl 2],.row 41 4 ((CC W H).take i).length (AA.row ((CC W H).take i)) none]⟩,μ:=λi=>AF W H-i,nl:=[.cell 1 6 41 4]}
 |_,_=>none
theorem d5j{L:List Stk}{x y q:Int}{l:List Int}{n:Nat}{f:Nat->List SV}{c:Option Nat}{sz:Nat}(a:sz=1)(b:n=l.length)(d:∀j,j<n->f j=AC.row l j){j:Nat}(hj:j<L.length+1):GU (if j<L.length then AA.row L j else(List.map (λx:Nat×List SV=>x.snd) [(0,[.int .i64 x,.int .i64 y,.int .u8 q,.sl sz n f c])].reverse).getD (j-L.length) []) (AA.row (L++[⟨⟨x,y,q⟩,l⟩]) j):=by
 subst a;by_cases e:j<L.length
 .left;rw[Jf e];unfold RT.row;rw[Jd,Jd,Jr e]
 .right;have:j=L.length:=E4;subst this;rw[Jg e,L8];unfold RT.row;rw[Jd (l:=L++_),Jw (Jm _),L8];exact⟨rfl,rfl,rfl,⟨b,F5,Gx,d⟩,Ji⟩
theorem f14{W H:Int}(hs:AO W H=0){i:Nat}(hi:(i:Int)<4*W*H):(CC W H).take (i+1)=(CC W H).take i++[⟨⟨(i:Int)/4%W,(i:Int)/4/W,(i:Int)%4⟩,[(i:Int)]⟩]:=by have hN:=CQ hs;rw[IZ (d:=AA.d) (by unfold CC;simp;omega)];congr 2;unfold CC;rw[Jd,K1,Nr E4];show (⟨AJ W H i,[(i:Int)]⟩:Stk)=_;rw[JL hs E4 hi]
theorem pHFl28:HS 28 f7x:=by
 refine HX {l:=[(43,Sg)],fz:=λd=>Nat.beq d 28,G:={gx:=λ_=>[.sel [2,0]]}} ⟨by simpa using Wr,E6,E6⟩ FFl28 IFl28 f7x ?_ ?_ ?_ Tryz.func28 E5 E5 E5 ?_
 .intro args own s h a;unfold f7x at h;split at h
  .rename_i W H;cases h;exact⟨(W,H),by simp[FFl28,BN,SV.le2,SV.le1,SV.le0],rfl,Ji,a,rfl,rfl,rfl⟩
  .cases h
 .exact C3
 .exact Ch
 .rintro⟨W,H⟩ μ a;replace a:AO W H=0:=a;have hN:=CQ a;have hw:=Ho a;refine X0b _ ?_;(repeat' first|constructor|intro h)<;>refine Lm ?_
  all_goals(try first
   |exact As)
  have Y2:(CC W H).length=AF W H:=by unfold CC;simp
  have Y5:4*W*H=4*(W*H):=M7 4 W H;refine⟨(0:Nat),Js _,?_,?_⟩
  .refine X0b _ ?_;(repeat' first|constructor|intro h)<;>refine Lm ?_
   all_goals first|exact Aa|exact Am|skip
  .intro i c;replace c:i<=AF W H:=c;have bi:((CC W H).take i).length<=AF W H:=F7;refine X0b _ ?_;(repeat' first|constructor|intro h)<;>refine Lm ?_
   all_goals(try simp only[In]at*)
   all_goals(try first
    |omega
    |exact B8
    |exact A9
    |exact Ae)
   .refine⟨i+1,by show i+1<=AF W H;omega,by show AF W H-(i+1)<AF W H-i;omega,?_⟩;have e:=f14 a h;rw[e,Kj,M2];refine X0b _ ?_;(repeat' first|constructor|intro h)<;>refine Lm ?_
    all_goals first
     |exact Aq
     |(intro q f;refine d5j (l:=[(i:Int)]) E5 rfl (λj hj=> ?_) f;have e:j=0:=Nat.lt_one_iff.1 hj;rw[e];rfl)
   all_goals
    have e:(CC W H).take i=CC W H:=Lp E4;rw[e];first|exact Aq|skip
theorem pFl28:PS 28 g1k:=ps_le (c8f pHFl28) λargs pre s h a=>by
 unfold g1k at h;split at h
 .rename_i W H;cases h;exact⟨_,_,rfl,a,by simp[rFl28,BD,FI,CV,SV.le2,SV.le1,BJ,SV.le0,HV,GU]⟩
 .cases h
def Jo(y x:Int×Int):Bool:=decide (y.1<x.1)||(decide (y.1=x.1)&&decide (y.2<x.2))
def KB(x:Int×Int):List (Int×Int)->List (Int×Int)
 | []=>[x]
 |y::r=>if Jo y x=true then y::KB x r else if y=x then y::r else x::y::r
def KI(q:Pas):Int×Int:=(q.K,q.C)
def El(ps:List Pas):List (Int×Int):=ps.foldl (λl q=>KB (KI q) l) []
theorem b4u{y x:Int×Int}:Jo y x=true↔y.1<x.1\/y.1=x.1/\y.2<x.2:=by unfold Jo;rw[Kk,K9,Jq,Jq,Jq]
theorem c9m{x y z:Int×Int}(h1:Jo x y=true)(h2:Jo y z=true):Jo x z=true:=by rw[b4u]at*;omega
theorem f1q{x y:Int×Int}(h1:¬Jo y x=true)(a:y≠x):Jo x y=true:=by rw[b4u]at*;have:¬(y.1=x.1/\y.2=x.2):=λh=>a (Prod.ext h.1 h.2);omega
theorem c8e{x:Int×Int}:∀(l:List (Int×Int)) (k:Nat),k<=l.length->(∀j,j<k->Jo (l.getD j HO.d) x=true)->(k<l.length->¬Jo (l.getD k HO.d) x=true)->
 KB x l=if k<l.length/\l.getD k HO.d=x then l else l.take k++([x]++l.drop k)
 | [],k,h,_,_=>by obtain rfl:k=0:=Ea;rfl
 |y::l,0,_,_,h=>by
  have a:¬Jo y x=true:=h E6;rw[KB,Jg a];show (if y=x then y::l else x::y::l)=if 0<(y::l).length/\y=x then y::l else []++([x]++y::l);by_cases e:y=x
  .rw[Jf e,Jf ⟨E6,e⟩]
  .rw[Jg e,Jg (λq=>e q.2)];rfl
 |y::l,k+1,h,b,c=>by
  have a:Jo y x=true:=b 0 E4;have f:=@c8e x l k Ea (λj q=>b (j+1) E4) (λq=>c (by simpa using q));rw[KB,Jf a,f];show (y::if k<l.length/\l.getD k HO.d=x then l else l.take k++([x]++l.drop k))=if k+1<(y::l).length/\l.getD k HO.d=x then y::l else y::l.take k++([x]++l.drop k);by_cases e:k<l.length/\l.getD k HO.d=x
  .rw[Jf e,Jf ⟨by simpa using e.1,e.2⟩]
  .rw[Jg e,Jg (λq=>e ⟨by simpa using q.1,q.2⟩)];rfl
theorem b5k{x y:Int×Int}:∀(l:List (Int×Int)),y∈KB x l↔y∈l\/y=x
 | []=>by simp[KB]
 |z::l=>by
  rw[KB];split
  .rw[Jt,b5k l,Jt,or_assoc]
  .split
   .rename_i h;subst h;simp only[Jt];constructor
    .exact λh=>.inl h
    .rintro(h|h)
     .exact h
     .exact .inl h
   .simp only[Jt];constructor
    .rintro(h|h)
     .exact .inr h
     .exact .inl h
    .rintro(h|h)
     .exact .inr h
     .exact .inl h
theorem c2w{x:Int×Int}:∀(l:List (Int×Int)),(KB x l).length<=l.length+1
 | []=>by simp[KB]
 |z::l=>by
  have:=@c2w x l;rw[KB];split
  .simp only[Kx];omega
  .split<;>simp
theorem c21{x:Int×Int}:∀(l:List (Int×Int)),l.Pairwise (λa b=>Jo a b=true)->(KB x l).Pairwise λa b=>Jo a b=true
 | [],_=>by simp[KB]
 |z::l,h=>by
  rw[Kz]at h;rw[KB];split
  .rename_i d;rw[Kz];refine⟨λa c=> ?_,c21 l h.2⟩;rcases(b5k l).1 c with c|rfl
   .exact h.1 a c
   .exact d
  .rename_i d;split
   .rw[Kz];exact h
   .rename_i e;have hx:=f1q d e;rw[Kz,Kz];refine⟨λa c=> ?_,h⟩;rcases Jt.1 c with rfl|c
    .exact hx
    .exact c9m hx (h.1 a c)
theorem f0m{ps:List Pas}{i:Nat}{d:Pas}(h:i<ps.length):El (ps.take (i+1))=KB (KI (ps.getD i d)) (El (ps.take i)):=by unfold El;rw[Mb,Je h,List.foldl_append,Jd,Je h];rfl
theorem f3q(ps:List Pas):∀(l:List (Int×Int)),l.Pairwise (λa b=>Jo a b=true)->(ps.foldl (λl q=>KB (KI q) l) l).Pairwise (λa b=>Jo a b=true)/\(∀y,y∈ps.foldl (λl q=>KB (KI q) l) l↔y∈l\/∃q∈ps,KI q=y)/\(ps.foldl (λl q=>KB (KI q) l) l).length<=l.length+ps.length:=by
 induction ps with
 |nil=>intro l h;exact⟨h,λy=>E6,E6⟩
 |cons q ps c=>
  intro l h;obtain⟨d,e,h3⟩:=c (KB (KI q) l) (c21 l h);refine⟨d,λy=> ?_,?_⟩
  .rw[Mg,e,b5k];simp only[Jt,exists_eq_or_imp];rw[or_assoc];constructor
   .rintro(h|h|h)
    .exact .inl h
    .exact .inr (.inl h.symm)
    .exact .inr (.inr h)
   .rintro(h|h|h)
    .exact .inl h
    .exact .inr (.inl h.symm)
    .exact .inr (.inr h)
  .have:=@c2w (KI q) l;rw[Mg,Kx];omega
theorem f5z{ps:List Pas}{y:Int×Int}:y∈El ps↔∃q∈ps,KI q=y:=by have:=(f3q ps [] .nil).2.1 y;simp only[List.not_mem_nil,false_or]at this;exact this
theorem g0m(ps:List Pas):(El ps).length<=ps.length:=by have:=(f3q ps [] .nil).2.2;simp only[Mz,Lg]at this;exact this
theorem lin_on{p:Pt}{P:Int->Mv}{y:Int×Int}(g:BO p=0)(G:PlcG p P):y∈El (HC p P (3*AF p.W p.H))↔YO p P y.1 y.2:=by
 have hs:=(GC g).1;rw[f5z];constructor
 .rintro⟨q,j,rfl⟩;obtain⟨a,e,c,d,h,rfl⟩:=(Yk g G).1 j;exact⟨a,e,c,d,rfl⟩
 .rintro⟨a,e,c,d,h⟩;have f:∀b,CN p b e->BB p b e=0->b<BA p b e->KC p P y.1 y.2 b e->∃q∈HC p P (3*AF p.W p.H),KI q=y:=λb k l m n=>by
   refine⟨_,(Yk g G).2 ⟨b,e,k,l,m,rfl⟩,?_⟩;have i:GX (DG (AQ p P b)) (DG (BQ p P b e))=(y.1,y.2):=n;unfold KI;simp only;rw[i]
  by_cases o:a<BA p a e
  .exact f a c d o h
  .obtain⟨r,s⟩:=QH hs c;have nq:BA p a e≠a:=λq=>by
    have:=(LO hs c.1 c.2.1 c.2.2).2.1;have t:AH p.W p.H a e=a:=q;rw[t]at this;exact YC (KH hs c.1) c.2.1 this.symm
   exact f _ r (by rw[QP hs g c];exact d) (by rw[s];omega) ((d3w hs G c d).2 h)
abbrev BF(p:Pt)(r:Mv):List Pas:=HC p (AM p r) (3*AF p.W p.H)
def rLn28(p:Pt)(r:Mv):SV:=.sl 2 (El (BF p r)).length (HO.row (El (BF p r))) none
def d9c:AK
 | [x]=>(Fo x).map λq=>(q.1/\CF q.2.1 q.2.2.1=0,rLn28 q.2.1 q.2.2.1)
 |_=>none
def FLn28:Fam:=⟨Pt×Mv×List Stk,λ(p,r,L)=>[.agg (BD p r L)],λ(p,r,L)=>(prOK p r/\EV L)/\CF p r=0,λ(p,r,_)=>rLn28 p r⟩
def lnEn(p:Pt)(r:Mv)(i:Nat)(a:List Entry):List Entry:=a++[⟨5,none,.int .i64 i⟩,⟨4,none,.sl 2 (El ((BF p r).take i)).length (HO.row (El ((BF p r).take i))) none⟩,⟨3,none,.sl 4 (BF p r).length (EA.row (BF p r)) none⟩,⟨1,none,.own 0 0⟩]
def ILn28:Pt×Mv×List Stk->Nat->Option Inv
 |(p,r,L),4=>some {β:=Nat,ok:=λi=>i<=(BF p r).length,st:=λi=>⟨lnEn p r i [],[.cells 34 (BD p r L)]⟩,μ:=λi=>(BF p r).length-i,sub:=λi=>some fun
  |8=>some {β:=Nat,ok:=λk=>(i<(BF p r).length/\k<=(El ((BF p r).take i)).length)/\∀j,j<k->Jo ((El ((BF p r).take i)).getD j HO.d) (KI ((BF p r).getD i EA.d))=true,st:=λk=>⟨lnEn p r i [⟨7,none,.int .i64 k⟩,⟨6,none,.own 1 0⟩],[.cells 34 (BD p r L),.cells 71 [.int .u8 ((BF p r).getD i EA.d).K,.int .i64 ((BF p r).getD i EA.d).C]]⟩,μ:=λk=>(El ((BF p r).take i)).length-k}
  |_=>none}
 |_,_=>none
theorem ln_len{O:List (Int×Int)}{k:Nat}{x:Int×Int}(hk:k<=O.length):0+((k:Int)-0).toNat+1+((O.length:Int)-k).toNat=(O.take k++([x]++O.drop k)).length:=by simp only[Kj,Nq,List.length_drop,M2];omega
theorem ln_ins{O:List (Int×Int)}{k:Nat}{x:Int×Int}{K C:Int}(hx:x=(K,C))(hk:k<=O.length){j:Nat}(c:j<0+((k:Int)-0).toNat+1+((O.length:Int)-k).toNat):GU (if j<0+((k:Int)-0).toNat+1 then if j<0+((k:Int)-0).toNat then if j<0 then []else HO.row O (Int.toNat 0+(j-0))else(List.map (λx:Nat×List SV=>x.snd) [(0,[SV.int .u8 K,SV.int .i64 C])].reverse).getD (j-(0+((k:Int)-0).toNat)) []else HO.row O (k+(j-(0+((k:Int)-0).toNat+1)))) (HO.row (O.take k++([x]++O.drop k)) j):=by
 left;have e:((k:Int)-0).toNat=k:=E4;rw[e,Lg]at c⊢;have a:(O.take k).length=k:=F7;subst hx;unfold RT.row;by_cases b:j<k
 .rw[Jf E4,Jf b,Jg (K3 _),show Int.toNat 0+(j-0)=j from E4];rw[Jd,Jd,Jr E4,List.getElem?_take_of_lt b]
 .by_cases d:j=k
  .subst d;rw[Jf E4,Jg (M1 _),L8];rw[Jd (l:=O.take j++_),Jw E4,a,L8];rfl
  .rw[Jg E4];rw[Jd,Jd,Jw E4,a,Jw (by rw[M2];omega),List.getElem?_drop,M2];congr 3
theorem pLn28:PS 29 d9c:=by
 refine NU {l:=[(66,Vb)],gr:=λid=>bif Nat.beq id 11 then [.orders,.fz 2,.fz 3]else []} ⟨by simpa using pPs28,E6,E6⟩ FLn28 ILn28 d9c ?_ ?_ Tryz.func29 E5 E5 E5 ?_
 .intro args pre s h hp;unfold d9c at h;split at h
  .simp only[Iq]at h;obtain⟨⟨q,p,r,L⟩,hx,rfl,rfl⟩:=h;obtain⟨h1,h2,h3⟩:=Ll hx hp.1;exact Dx
  .cases h
 .exact C4
 .rintro⟨p,r,L⟩ ⟨⟨⟨⟨F,G⟩,I⟩,t⟩,u⟩;have hs:=(GC (Ua u).1).1;have hN:=CQ hs;have be:(BF p r).length<=1000000:=by
   have:=@d33 p (AM p r) (3*AF p.W p.H);have hw:=Ho hs;show (HC p (AM p r) (3*AF p.W p.H)).length<=_;omega
  refine X0a _ ?_;(repeat' first|constructor|intro h)<;>refine Lm ?_
  all_goals(try simp only[CR,RT.lst_row,Qb,QJ]at*)
  all_goals(try exact⟨⟨⟨⟨EC _,F⟩,G,I⟩,LH L t.1,t.2⟩,u⟩)
  refine⟨(0:Nat),Js _,?_,?_⟩
  .refine X0b _ ?_;(repeat' first|constructor|intro h)<;>refine Lm ?_
   all_goals first|exact Bk|skip
  .intro i v;replace v:i<=(BF p r).length:=v;refine X0b _ ?_;(repeat' first|constructor|intro h)<;>refine Lm ?_
   all_goals(try simp only[In]at*)
   all_goals(try first
    |exact As)
   .have g:i<(BF p r).length:=E4;have J:=@f0m (BF p r) i EA.d g;have jt:(El ((BF p r).take i)).length<=1000000:=by
     have:=g0m ((BF p r).take i);rw[Nq]at this;omega
    refine⟨(0:Nat),⟨⟨g,Js _⟩,λj w=>absurd w (K3 _)⟩,?_,?_⟩
    .exact X2a
    .intro k m;replace m:(i<(BF p r).length/\k<=(El ((BF p r).take i)).length)/\∀j,j<k->Jo ((El ((BF p r).take i)).getD j HO.d) (KI ((BF p r).getD i EA.d))=true:=m;obtain⟨⟨_,k1⟩,k2⟩:=m;have n:=c8e (x:=KI ((BF p r).getD i EA.d)) (El ((BF p r).take i)) k k1 k2;have y:(KI ((BF p r).getD i EA.d)).1=((BF p r).getD i EA.d).K:=rfl;have z:(KI ((BF p r).getD i EA.d)).2=((BF p r).getD i EA.d).C:=rfl;by_cases f:k<(El ((BF p r).take i)).length/\Jo ((El ((BF p r).take i)).getD k HO.d) (KI ((BF p r).getD i EA.d))=true
     .obtain⟨qc,A⟩:=f;have B:=b4u.1 A;rw[y,z]at B;clear n;refine X0b _ ?_;(repeat' first|constructor|intro h)<;>refine Lm ?_
      all_goals(try simp only[In,It,Iy,Ip,N4]at*)
      all_goals(try first
       |exact As
       |(intro _;omega))
      refine⟨k+1,⟨⟨g,E4⟩,λj w=> ?_⟩,Ff,?_⟩
      .by_cases e:j=k
       .subst e;exact A
       .exact k2 j E4
      .refine X0b _ ?_;(repeat' first|constructor|intro h)<;>refine Lm ?_
       all_goals first|exact B7|omega|skip
     .have B:¬(k<(El ((BF p r).take i)).length/\(((El ((BF p r).take i)).getD k HO.d).1<((BF p r).getD i EA.d).K\/((El ((BF p r).take i)).getD k HO.d).1=((BF p r).getD i EA.d).K/\((El ((BF p r).take i)).getD k HO.d).2<((BF p r).getD i EA.d).C)):=λq=>f ⟨q.1,b4u.2 (by rw[y,z];exact q.2)⟩;have b:=n λq h=>f ⟨q,h⟩;rw[<-J]at b;clear n k2 f;by_cases c:k<(El ((BF p r).take i)).length/\(El ((BF p r).take i)).getD k HO.d=KI ((BF p r).getD i EA.d)
      .rw[Jf c]at b;obtain⟨tw,E⟩:=c;have o:((El ((BF p r).take i)).getD k HO.d).1=((BF p r).getD i EA.d).K:=by rw[E];rfl
       have hd4:((El ((BF p r).take i)).getD k HO.d).2=((BF p r).getD i EA.d).C:=by rw[E];rfl
       refine X0b _ ?_;(repeat' first|constructor|intro h)<;>refine Lm ?_
       all_goals(try simp only[In,It,Iy,Ip,N4]at*)
       all_goals(try first
        |exact As
        |(intro _;omega))
       refine⟨i+1,Ei,Ef,?_⟩;all_goals refine X0b _ ?_;(repeat' first|constructor|intro h)<;>refine Lm ?_
       all_goals first|rfl|(rw[b];done)|(rw[b];exact λ_ _=>.inl rfl)|exact A8|omega|skip
      .rw[Jg c]at b;have o:¬(k<(El ((BF p r).take i)).length/\((El ((BF p r).take i)).getD k HO.d).1=((BF p r).getD i EA.d).K/\((El ((BF p r).take i)).getD k HO.d).2=((BF p r).getD i EA.d).C):=λq=>c ⟨q.1,Prod.ext q.2.1 q.2.2⟩;clear c;refine X0b _ ?_;(repeat' first|constructor|intro h)<;>refine Lm ?_
       all_goals(try simp only[In,It,Iy,Ip,N4]at*)
       all_goals(try first
        |exact As
        |(intro _;omega)
        |exact Bp
        |exact Ae)
       all_goals
        refine⟨i+1,Ei,Ef,?_⟩;all_goals refine X0b _ ?_;(repeat' first|constructor|intro h)<;>refine Lm ?_
        all_goals(try first|exact B7)
        all_goals rw[b]
        all_goals first
         |exact ln_len k1
         |exact λ_ h=>ln_ins rfl k1 h
         |skip
   all_goals
    have M:i=(BF p r).length:=E4;rw[M,Lj];first|exact B7|skip
section
variable{L:List Stk}{K C sd:Int}{i:Nat}
theorem f61(h:i<L.length)(hs:DF K C (L.getD i AA.d).c≠sd):Dl K C sd (L.take (i+1))=Dl K C sd (L.take i)++[L.getD i AA.d]/\DH K C sd (L.take (i+1))=DH K C sd (L.take i):=by rw[IZ (d:=AA.d) h];unfold Dl DH;rw[Ng,Ng];generalize L.getD i AA.d=x at*;simp[hs]
theorem f9u(h:i<L.length)(hs:DF K C (L.getD i AA.d).c=sd):Dl K C sd (L.take (i+1))=Dl K C sd (L.take i)/\DH K C sd (L.take (i+1))=DH K C sd (L.take i)++[⟨AV (Al K C) (L.getD i AA.d).c,(L.getD i AA.d).l.reverse⟩]:=by rw[IZ (d:=AA.d) h];unfold Dl DH;rw[Ng,Ng];generalize L.getD i AA.d=x at*;simp[hs]
theorem d92:(Dl K C sd (L.take i)).length<=L.length:=by unfold Dl;refine Lk (Ni _ _) ?_;rw[Nq];omega
theorem d8g:(DH K C sd (L.take i)).length<=L.length:=by unfold DH;rw[Ke];refine Lk (Ni _ _) ?_;rw[Nq];omega
def JO(K C sd:Int)(L:List Stk):Bool:=L.any λs=>decide (DF K C s.c=sd)&&s.l.contains 0
def Wv(z:Bool)(r m:Mv):Mv:=⟨if z=true then(BE r m).t else r.t,if z=true then(BE r m).x else r.x,if z=true then(BE r m).y else r.y⟩
theorem rt_eq(z:Bool)(r m:Mv):Wv z r m=if z=true then BE r m else r:=by cases z<;>rfl
theorem z_stay(h:i<L.length)(hs:DF K C (L.getD i AA.d).c≠sd):JO K C sd (L.take (i+1))=JO K C sd (L.take i):=by rw[IZ (d:=AA.d) h];unfold JO;rw[Nt];generalize L.getD i AA.d=x at*;simp[hs]
theorem z_away(h:i<L.length)(hs:DF K C (L.getD i AA.d).c=sd):JO K C sd (L.take (i+1))=(JO K C sd (L.take i)||((L.getD i AA.d).l.reverse.take (L.getD i AA.d).l.length).contains 0):=by rw[IZ (d:=AA.d) h];unfold JO;rw[Nt];generalize L.getD i AA.d=x at*;have e:x.l.reverse.take x.l.length=x.l.reverse:=Lp E6;rw[e];simp[hs]
theorem f6z{l:List Int}{j:Nat}(h:j<l.length):l.reverse.getD j 0=l.getD (l.length-1-j) 0:=by rw[Jd,Jd,List.getElem?_reverse h]
theorem f0c{l:List Int}{j:Nat}(h:j<l.length):(l.take (j+1)).contains 0=((l.take j).contains 0||decide (l.getD j 0=0)):=by rw[IZ (d:=0) h,List.contains_append];congr 1;rw[List.contains_cons,List.contains_nil,N3];rw[Ly,M6,Jq];exact eq_comm
end
theorem c9i(_:Bool)(S:List Stk)(x:Stk):(∃k,k<S.length/\(∀j,j<k->(S.getD j AA.d).c≠x.c)/\(S.getD k AA.d).c=x.c)\/∀j,j<S.length->(S.getD j AA.d).c≠x.c:=by
 induction S with
 |nil=>exact .inr λj hj=>absurd hj (K3 _)
 |cons s S a=>
  by_cases h:s.c=x.c
  .exact .inl ⟨0,E6,λj hj=>absurd hj (K3 _),h⟩
  .rcases a with⟨k,h1,b,e⟩|h1
   .refine .inl ⟨k+1,F0,λj hj=> ?_,e⟩;cases j with
    |zero=>exact h
    |succ j=>exact b j E4
   .refine .inr λj hj=> ?_;cases j with
    |zero=>exact h
    |succ j=>exact h1 j Et
theorem b4t{over:Bool}{S A:List Stk}{i:Nat}(h:i<A.length):AY over S (A.take (i+1))=EO over (AY over S (A.take i)) (A.getD i AA.d):=by unfold AY;rw[IZ (d:=AA.d) h,List.foldl_append];rfl
theorem c31{over:Bool}{x:Stk}:∀(S:List Stk) (j:Nat),j<S.length->((EO over S x).getD j AA.d).c=(S.getD j AA.d).c/\((S.getD j AA.d).c≠x.c->(EO over S x).getD j AA.d=S.getD j AA.d)
 | [],j,h=>Ee
 |s::S,j,h=>by
  rw[EO];split
  .rename_i e;cases j with
   |zero=>exact⟨rfl,λq=>absurd e q⟩
   |succ j=>exact⟨rfl,λ_=>rfl⟩
  .cases j with
   |zero=>exact⟨rfl,λ_=>rfl⟩
   |succ j=>exact c31 S j Ea
theorem b4s{over:Bool}{x:Stk}:∀(S:List Stk),S.length<=(EO over S x).length/\(EO over S x).length<=S.length+1
 | []=>by simp[EO]
 |s::S=>by
  have:=@b4s over x S;rw[EO];split
  .simp
  .simp only[Kx];omega
theorem Uw{over:Bool}:∀(A S:List Stk),S.length<=(AY over S A).length/\(AY over S A).length<=S.length+A.length
 | [],S=>by show S.length<=S.length/\S.length<=S.length+0;omega
 |x::A,S=>by have h1:=@Uw over A (EO over S x);have h2:=@b4s over x S;have e:AY over S (x::A)=AY over (EO over S x) A:=rfl;rw[e,Kx];omega
theorem XF{over:Bool}:∀(A S:List Stk) (j:Nat),j<S.length->((AY over S A).getD j AA.d).c=(S.getD j AA.d).c/\((S.getD j AA.d).c∉A.map (·.c)->(AY over S A).getD j AA.d=S.getD j AA.d)
 | [],S,j,h=>⟨rfl,λ_=>rfl⟩
 |x::A,S,j,h=>by have e:AY over S (x::A)=AY over (EO over S x) A:=rfl;have h1:=(@b4s over x S).1;obtain⟨g1,a⟩:=@c31 over x S j h;obtain⟨f1,f2⟩:=@XF over A (EO over S x) j E4;rw[e];refine⟨f1.trans g1,λq=> ?_⟩;rw[L3,Jt,not_or]at q;rw[f2 (by rw[g1];exact q.2),a q.1]
theorem c72{over:Bool}:∀(A S:List Stk) (j:Nat),S.length<=j->j<(AY over S A).length->((AY over S A).getD j AA.d).c∈A.map (·.c)
 | [],S,j,g,a=>by have e:AY over S []=S:=rfl;rw[e]at a;omega
 |x::A,S,j,g,a=>by
  have e:AY over S (x::A)=AY over (EO over S x) A:=rfl;rw[e]at a⊢;by_cases f:j<(EO over S x).length
  .have hl:=(@b4s over x S).2;have b:j=S.length:=E4;subst b;rw[(@XF over A (EO over S x) S.length f).1];rcases c9i over S x with⟨k,k1,k2,k3⟩|i
   .rw[b47 S k k1 k2 k3,L5]at f;omega
   .rw[Yb S i];simp[]
  .exact K8 _ (c72 A _ j E4 a)
theorem d2x:∀(n:Nat) (l:List Int),l.Nodup->(∀x∈l,0<=x/\x<(n:Int))->l.length<=n
 |0,l,_,h=>by
  cases l with
  |nil=>simp
  |cons x l=>have:=h x E6;omega
 |n+1,l,a,h=>by
  have b:=d2x n (l.erase (n:Int)) (a.sublist List.erase_sublist) (λx hx=>by
   have h1:=h x (List.mem_of_mem_erase hx);have h2:x≠(n:Int):=λe=>by subst e;exact a.not_mem_erase hx
   omega)
  rw[List.length_erase]at b;split at b<;>omega
namespace StG
variable{p:Pt}{r:Mv}{L:List Stk}{P:Int->Mv}{B:Int}
theorem flat_len(X:StG p r L P B):(BX L).length<=AF p.W p.H:=by have hN:=CQ X.hs;refine d2x _ _ X.flat_nd λx hx=> ?_;have h:=(X.flat_mem x).1 hx;unfold AR at h;omega
theorem lay_len(X:StG p r L P B){s:Stk}(hs:s∈L):s.l.length<=AF p.W p.H:=by have hN:=CQ X.hs;have a:=X.S.nd s.c;rw[X.at_ hs]at a;refine d2x _ _ a λx hx=> ?_;have h:=(X.inSt hs hx).1;unfold AR at h;omega
theorem len(X:StG p r L P B):L.length<=AF p.W p.H:=by
 refine Nat.le_trans ?_ X.flat_len;have:∀M:List Stk,(∀s∈M,s.l≠[])->M.length<=(BX M).length:=by
  intro M;induction M with
  |nil=>intro _;simp
  |cons s M a=>
   intro h;have h1:=a λt b=>h t (List.mem_cons_of_mem _ b);have h2:0<s.l.length:=List.length_pos_iff.2 (h s (by simp));have e:BX (s::M)=s.l++BX M:=rfl;rw[e,List.length_append,List.length_cons];omega
 exact this L X.ne
theorem stIn(X:StG p r L P B):EV L:=by
 have hN:=CQ X.hs;have hw:=Ho X.hs;have h1:=X.len;have h2:=X.flat_len;refine⟨⟨by omega,λs hs=> ?_⟩,λs hs=> ?_,by omega⟩
 .have:=X.lay_len hs;omega
 .have:=X.cQ hs;unfold BH at this;exact⟨this.1,by show s.c.q<=255;omega⟩
theorem cg(X:StG p r L P B){Q:Int->Mv}(h:∀i,AR p i->Q i=P i):StG p r L Q B:=by
 have hs:=X.hs;have hN:=CQ hs;refine⟨X.hp,⟨λi a=>by rw[h i a];exact X.G.ok i a,λi e a f g=> ?_⟩,?_,λi a=>by rw[UF h a];exact X.bd i a,X.lt,X.ne,⟨X.S.nd,λc v=> ?_⟩,nc_cg h X.N,kd_cg hs h X.D⟩
 .rw[h i a,h _ (LO hs a f g).1];exact X.G.cr i e a f g
 .rw[h 0 ⟨Int.le_refl _,by omega⟩];exact X.r0
 .rw[X.S.mem c v];constructor
  .rintro⟨b,d⟩;exact⟨b,by rw[UF h b];exact d⟩
  .rintro⟨b,d⟩;exact⟨b,by rw[<-UF h b];exact d⟩
theorem pl(X:StG p r L P B)(a:B<=4000):StG p r L (AM p r) B:=X.cg λi b=>(X.places a).2 i b
theorem mono{B':Int}(X:StG p r L P B)(hB:B<=B'):StG p r L P B':=
 ⟨X.hp,X.G,X.r0,λi a=>by have:=X.bd i a;omega,X.lt,X.ne,X.S,X.N,X.D⟩
end StG
abbrev II:=Pt×Mv×List Stk
def Oa(s:II):List (Int×Int):=El (HC s.1 (AM s.1 s.2.1) (3*AF s.1.W s.1.H))
def UV(s:II)(K C sd:Int)(over:Bool):II:=(FR s.1 (AM s.1 s.2.1) K C over,FH s.1 (AM s.1 s.2.1) K C sd 0,JV over K C sd s.2.2)
def YD(s:II)(a:Int):Int×Int:=(Oa s).getD (a%((Oa s).length:Int)).toNat HO.d
def MG(s:II)(f:Int×Int×Int):II:=if Oa s=[]then s else UV s (YD s f.1).1 (YD s f.1).2 (f.2.1%2) (decide (f.2.2%2=1))
def sxSt(w h:Int):II:=(⟨1+w%4,1+h%4,[]⟩,CV,CC (1+w%4) (1+h%4))
def NS(w h:Int)(l:List (Int×Int×Int)):II:=(l.take 5).foldl MG (sxSt w h)
def Py:Nat->Int
 |0=>3
 |i+1=>3*Py i+2
theorem c8y{i:Nat}(h:i<=5):3<=Py i/\Py i<=971:=by
 match i,h with
 |0,_=>decide
 |1,_=>decide
 |2,_=>decide
 |3,_=>decide
 |4,_=>decide
 |5,_=>decide
structure SOK (s:II) (i:Nat):Prop where
 g:StG s.1 s.2.1 s.2.2 (AM s.1 s.2.1) (Py i)
 small:s.1.W<=4/\s.1.H<=4
 few:s.1.l.length<=192*i
 u8:∀c∈s.1.l,AD .u8 c.e
theorem SOK.prOK{s:II}{i:Nat}(X:SOK s i)(hi:i<=5):prOK s.1 s.2.1:=by have hN:=CQ X.g.hs;have a:=(X.g.G.ok 0 ⟨Int.le_refl _,by omega⟩).1;rw[X.g.r0]at a;have:=X.few;unfold CM at a;exact⟨⟨by omega,X.u8⟩,by omega,by omega⟩
theorem SOK.n{s:II}{i:Nat}(X:SOK s i):AF s.1.W s.1.H<=64:=by have a:=CQ X.g.hs;have hw:=Ho X.g.hs;obtain⟨b,c⟩:=X.small;have:s.1.W*s.1.H<=4*4:=Int.mul_le_mul b c (by omega) (by omega);rw[Int.mul_assoc]at a;omega
theorem SOK.chk{s:II}{i:Nat}(X:SOK s i)(hi:i<=5):FE s.1 s.2.1 s.2.2=0:=X.g.valid (by have:=c8y hi;omega)
theorem SOK.mono{s:II}{i j:Nat}(X:SOK s i)(h:i<=j)(a:j<=5):SOK s j:=by
 refine⟨X.g.mono ?_,X.small,by have:=X.few;omega,X.u8⟩;have:∀j,i<=j->j<=5->Py i<=Py j:=by
  intro j;induction j with
  |zero=>intro h _;have:i=0:=by omega
         subst this;exact Int.le_refl _
  |succ j b=>
   intro h1 h2;by_cases e:i=j+1
   .subst e;exact Int.le_refl _
   .have h3:=b (by omega) (by omega);have h4:=c8y (i:=j) (by omega);show Py i<=3*Py j+2;omega
 exact this j h a
theorem c71(l:List Cr):(ND l).length=l.length:=(b6f l).length_eq
theorem SOK.fold{s:II}{i:Nat}(X:SOK s i)(hi:i+1<=5){K C sd:Int}(b:YO s.1 (AM s.1 s.2.1) K C)(a:sd=0\/sd=1)(over:Bool):SOK (UV s K C sd over) (i+1):=by
 obtain⟨hK,Y⟩:=X.g.fold X.u8 b a over;have hB:=c8y (i:=i+1) hi;have c:StG (UV s K C sd over).1 (UV s K C sd over).2.1 (UV s K C sd over).2.2 (FH s.1 (AM s.1 s.2.1) K C sd) (Py (i+1)):=Y;refine⟨c.pl (by omega),X.small,?_,?_⟩
 .show (ND (s.1.l++MF s.1 (AM s.1 s.2.1) K C over)).length<=_;rw[c71,List.length_append];have h1:=X.few;have h2:=X.n;have h3:(MF s.1 (AM s.1 s.2.1) K C over).length<=3*AF s.1.W s.1.H:=by
   unfold MF;rw[List.length_map];refine Nat.le_trans (List.length_filter_le _ _) ?_;unfold HC;refine Nat.le_trans (List.length_filterMap_le _ _) ?_;simp
  omega
 .exact(d74 (K:=K) (C:=C) (over:=over) X.g.hp X.u8 X.g.G).2
theorem ci_bd{c:Cl}{e B:Int}(a:BH c)(b:0<=e/\e<3)(d:(-B<=c.x/\c.x<=B)/\ -B<=c.y/\c.y<=B): -(2*B+1)<=DA c.x c.y c.q e/\DA c.x c.y c.q e<=2*B+1:=by obtain⟨X,Y,Q⟩:=c;rcases EW a with h|h|h|h<;>rcases GZ b with rfl|rfl|rfl<;>(simp only at h d;subst h;simp[DA,IC,JU,tb];omega)
theorem on_bd{p:Pt}{r:Mv}{L:List Stk}{P:Int->Mv}{B K C:Int}(X:StG p r L P B)(f:YO p P K C):(1<=K/\K<=4)/\ -(2*B+1)<=C/\C<=2*B+1:=by have hs:=X.hs;obtain⟨a,e,b,ka,g⟩:=f;have c:=KQ hs X.G b.1;have d:=Sr (t:=(P a).t) b.2.1;obtain⟨h,i⟩:=(YR hs X.G b.1 b.2.1).1 g;rw[<-h,<-i];exact⟨ci_K c d,ci_bd c d (X.bd a b.1)⟩
theorem f3m{s:II}{i:Nat}(X:SOK s i){y:Int×Int}:y∈Oa s↔YO s.1 (AM s.1 s.2.1) y.1 y.2:=lin_on X.g.hp X.g.G
theorem d1f{s:II}{a:Int}(h:Oa s≠[]):YD s a∈Oa s:=by have hl:0<(Oa s).length:=List.length_pos_iff.2 h;refine CY ?_;have h1:=Int.emod_nonneg a (b:=((Oa s).length:Int)) (by omega);have h2:=Int.emod_lt_of_pos a (b:=((Oa s).length:Int)) (by omega);omega
theorem md2(a:Int):a%2=0\/a%2=1:=by omega
theorem SOK.next{s:II}{i:Nat}(X:SOK s i)(hi:i+1<=5)(f:Int×Int×Int):SOK (MG s f) (i+1):=by
 unfold MG;split
 .exact X.mono (by omega) hi
 .rename_i h;exact X.fold hi ((f3m X).1 (d1f h)) (md2 _) _
theorem sx_ok(w h:Int):SOK (sxSt w h) 0:=by
 have a1:=Int.emod_nonneg w (b:=4) (by omega);have a2:=Int.emod_lt_of_pos w (b:=4) (by omega);have b1:=Int.emod_nonneg h (b:=4) (by omega);have b2:=Int.emod_lt_of_pos h (b:=4) (by omega);have hs:AO (1+w%4) (1+h%4)=0:=by
  have a:w%4=0\/w%4=1\/w%4=2\/w%4=3:=by omega
  have d:h%4=0\/h%4=1\/h%4=2\/h%4=3:=by omega
  rcases a with e|e|e|e<;>rcases d with g|g|g|g<;>rw[e,g]<;>decide
 have G:=d2b (B:=3) hs (by omega);exact⟨G.pl (by omega),by show 1+w%4<=4/\1+h%4<=4;omega,by show 0<=_;omega,λc f=>by cases f⟩
theorem so_ok:∀(l:List (Int×Int×Int)) (s:II) (i:Nat),SOK s i->i+l.length<=5->SOK (l.foldl MG s) (i+l.length)
 | [],s,i,h,_=>h
 |f::l,s,i,h,a=>by rw[List.length_cons]at a⊢;have:=so_ok l (MG s f) (i+1) (h.next (by omega) f) (by omega);rw[show i+(l.length+1)=i+1+l.length by omega];exact this
theorem sOf_ok(w h:Int)(l:List (Int×Int×Int)):SOK (NS w h l) 5:=by
 have hl:(l.take 5).length<=5:=by rw[List.length_take];omega
 have:=so_ok (l.take 5) (sxSt w h) 0 (sx_ok w h) (by omega);exact this.mono (by omega) (by omega)
theorem d6z:∀(l:List (Int×Int×Int)) (s:II),Oa s=[]->l.foldl MG s=s
 | [],_,_=>rfl
 |f::l,s,h=>by
  have e:MG s f=s:=by unfold MG;rw[if_pos h]
  rw[List.foldl_cons,e];exact d6z l s h
def GK(S A:List Stk)(q:Nat):Bool:=decide (q<S.length)&& !(A.any λx=>decide (x.c=(S.getD q AA.d).c))
theorem Se{S A:List Stk}{q:Nat}:GK S A q=true↔q<S.length/\(S.getD q AA.d).c∉A.map (·.c):=by unfold GK;rw[K9,Jq,Bool.not_eq_true',Jy];simp only[Jq,Jx,not_exists,not_and]
theorem d47(S:List Stk)(q:Nat):GK S [] q=decide (q<S.length):=by unfold GK;simp
theorem f1s{A:List Stk}(nA:CK A){i:Nat}(hi:i<A.length):(A.getD i AA.d).c∉(A.take i).map (·.c):=by
 unfold CK at nA;have h:(A.take (i+1)).map (·.c)=(A.take i).map (·.c)++[(A.getD i AA.d).c]:=by rw[IZ (d:=AA.d) hi,Mf];rfl
 have a:((A.take (i+1)).map (·.c)).Nodup:=Nw ((List.take_sublist _ _).map _) nA;rw[h,List.nodup_append]at a;exact λb=>a.2.2 _ b _ E6 rfl
theorem nd_eq{S:List Stk}(a:CK S){j k:Nat}(b:j<S.length)(f:k<S.length)(h:(S.getD j AA.d).c=(S.getD k AA.d).c):j=k:=by
 rcases N2 j k with e|e|e
 .exfalso;refine f1s a f ?_;rw[<-h];refine Jx.2 ⟨S.getD j AA.d,?_,rfl⟩;rw[Jd,Je b];exact List.mem_take_iff_getElem.2 ⟨j,E4,rfl⟩
 .exact e
 .exfalso;refine f1s a b ?_;rw[h];refine Jx.2 ⟨S.getD k AA.d,?_,rfl⟩;rw[Jd,Je f];exact List.mem_take_iff_getElem.2 ⟨k,E4,rfl⟩
section
variable{over:Bool}{S A:List Stk}{i k:Nat}
theorem d2m(nA:CK A)(hi:i<A.length)(f:k<(AY over S (A.take i)).length)(a:((AY over S (A.take i)).getD k AA.d).c=(A.getD i AA.d).c):k<S.length/\(S.getD k AA.d).c=(A.getD i AA.d).c/\(AY over S (A.take i)).getD k AA.d=S.getD k AA.d/\GK S (A.take i) k=true:=by
 have hx:=f1s nA hi;by_cases h:k<S.length
 .obtain⟨g1,g⟩:=@XF over (A.take i) S k h;have b:(S.getD k AA.d).c=(A.getD i AA.d).c:=g1.symm.trans a;have e:(S.getD k AA.d).c∉(A.take i).map (·.c):=by rw[b];exact hx
  exact⟨h,b,g e,Se.2 ⟨h,e⟩⟩
 .exfalso;have:=@c72 over (A.take i) S k E4 f;rw[a]at this;exact hx this
theorem f4m(h:CK S)(hi:i<A.length)(j:k<S.length)(g:(S.getD k AA.d).c=(A.getD i AA.d).c){q:Nat}:GK S (A.take (i+1)) q=(!decide (q=k)&&GK S (A.take i) q):=by
 rw[Ly,K9,Se,Se,IZ (d:=AA.d) hi,Mf,Ka,not_or,Bool.not_eq_true',Lt];simp only[L3,List.map_nil,K4];constructor
 .rintro⟨b,a,f⟩;refine⟨λe=> ?_,b,a⟩;subst e;exact f g
 .rintro⟨b,a,f⟩;exact⟨a,f,λe=>b (nd_eq h a j (e.trans g.symm))⟩
theorem d0u(hi:i<A.length)(f:∀j,j<(AY over S (A.take i)).length->((AY over S (A.take i)).getD j AA.d).c≠(A.getD i AA.d).c){q:Nat}:GK S (A.take (i+1)) q=GK S (A.take i) q:=by
 rw[Ly,Se,Se,IZ (d:=AA.d) hi,Mf,Ka,not_or];simp only[L3,List.map_nil,K4];constructor
 .rintro⟨a,b,h3⟩;exact⟨a,b⟩
 .rintro⟨a,b⟩;refine⟨a,b,λe=> ?_⟩;have hl:=(@Uw over (A.take i) S).1;exact f q E4 (((@XF over (A.take i) S q a).1).trans e)
end
def SF(hd:Nat->Value)(S:List Stk)(q:Nat):List SV:=[.int .i64 (S.getD q AA.d).c.x,.int .i64 (S.getD q AA.d).c.y,.int .u8 (S.getD q AA.d).c.q,.con (hd q)]
def HD(hd:Nat->Value)(S A M:List Stk)(q:Nat):List SV:=[.int .i64 (M.getD q AA.d).c.x,.int .i64 (M.getD q AA.d).c.y,.int .u8 (M.getD q AA.d).c.q,if GK S A q=true then .con (hd q)else .sl 1 (M.getD q AA.d).l.length (AC.row (M.getD q AA.d).l) none]
section
variable{over:Bool}{S A:List Stk}{hd:Nat->Value}
theorem f4c{q:Nat}:(if q<S.length/\GK S A q=true then(HD hd S A (AY over S A) q).set 3 (.sl 1 (S.getD q AA.d).l.length (AC.row (S.getD q AA.d).l) none)else HD hd S A (AY over S A) q)=AA.row (AY over S A) q:=by
 by_cases h:q<S.length/\GK S A q=true
 .rw[Jf h];have e:=(@XF over A S q h.1).2 (Se.1 h.2).2;unfold HD RT.row;rw[e];rfl
 .rw[Jg h];have a:¬GK S A q=true:=λk=>h ⟨(Se.1 k).1,k⟩;unfold HD RT.row;rw[Jg a];rfl
theorem d1h:(AA.lst (AY over S A).length λq=>if q<S.length/\GK S A q=true then(HD hd S A (AY over S A) q).set 3 (.sl 1 (S.getD q AA.d).l.length (AC.row (S.getD q AA.d).l) none)else HD hd S A (AY over S A) q)=AY over S A:=by have:(λq=>if q<S.length/\GK S A q=true then(HD hd S A (AY over S A) q).set 3 (.sl 1 (S.getD q AA.d).l.length (AC.row (S.getD q AA.d).l) none)else HD hd S A (AY over S A) q)=AA.row (AY over S A):=Ms λq=>f4c;rw[this,RT.lst_row]
theorem sel_is:AA.isL (AY over S A).length λq=>if q<S.length/\GK S A q=true then(HD hd S A (AY over S A) q).set 3 (.sl 1 (S.getD q AA.d).l.length (AC.row (S.getD q AA.d).l) none)else HD hd S A (AY over S A) q:=by have:(λq=>if q<S.length/\GK S A q=true then(HD hd S A (AY over S A) q).set 3 (.sl 1 (S.getD q AA.d).l.length (AC.row (S.getD q AA.d).l) none)else HD hd S A (AY over S A) q)=AA.row (AY over S A):=Ms λq=>f4c;rw[this];exact RT.isL_row AA _
theorem f5h(a:CK S)(nA:CK A){n:Nat}(hS:∀s∈S,s.l.length<=n)(d:∀s∈A,s.l.length<=n):∀s∈AY over S A,s.l.length<=2*n:=by
 intro s hs;have e:=Qf (c57 (over:=over) A S a) hs;rw[c4k A S s.c nA]at e;have len:∀(L:List Stk),(∀t∈L,t.l.length<=n)->CK L->(AX L s.c).length<=n:=λL f g=>by
  rcases RI L s.c with⟨t,b,e⟩|e
  .rw[<-e,Qf g b];exact f t b
  .rw[e];simp
 have h1:=len S hS a;have h2:=len A d nA;rw[<-e];unfold NK;split<;>rw[Kj]<;>omega
end
end Go.Proofs.YtaihldljnlgnoaaGreatDoor.V
