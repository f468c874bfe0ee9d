/-
  Parts of the proof: D12 D14 D15 Y12 Y13 Y14 D16 Y15 D17 Y16 D18 D19 D22 D23 Y17 Y18 T4 D21. Conditions: none.
-/
import Derived.Test.YtngppkidkigcbaaGreatDoorSfc3
import Derived.Test.YtngppkidkigcbaaGreatDoorSfc5
import Derived.Test.YtngppkidkigcbaaGreatDoorSfc15
set_option maxRecDepth 100000
set_option maxHeartbeats 40000000
namespace Go.Proofs.YtngppkidkigcbaaGreatDoor.V
open Go
def DM(K C sd:Int)(L:List Stk):List Stk:=L.filter λs=> !decide (CU K C s.c=sd)
def CW(K C sd:Int)(L:List Stk):List Stk:=(L.filter λs=>decide (CU K C s.c=sd)).map λs=>⟨BK (BC K C) s.c,s.l.reverse⟩
def MF(over:Bool)(a b:List Int):List Int:=if over=true then a++b else b++a
def DZ(over:Bool):List Stk->Stk->List Stk
 | [],x=>[x]
 |s::S,x=>if s.c=x.c then⟨s.c,MF over s.l x.l⟩::S else s::DZ over S x
def AR(over:Bool)(S A:List Stk):List Stk:=A.foldl (DZ over) S
def NY(M:List Stk):List Stk:=FZ AA.d AW 0 M.length M
def JN(over:Bool)(K C sd:Int)(L:List Stk):List Stk:=NY (AR over (DM K C sd L) (CW K C sd L))
theorem LZ(s:Stk)(L:List Stk)(c:Cl):AX (s::L) c=if s.c=c then s.l else AX L c:=by
 unfold AX;rw[List.find?_cons];by_cases h:s.c=c
 .simp[h]
 .simp[h]
theorem b3i(c:Cl):AX [] c=[]:=rfl
theorem c3v(over:Bool)(l:List Int):MF over [] l=l:=by unfold MF;split<;>simp
theorem c96{over:Bool}{x:Stk}:∀(S:List Stk) (c:Cl),AX (DZ over S x) c=if c=x.c then MF over (AX S c) x.l else AX S c
 | [],c=>by
   rw[DZ,LZ,b3i,c3v];by_cases h:x.c=c
   .rw[Ih h,Ih h.symm]
   .rw[Ii h,Ii (λq=>h q.symm)]
 |s::S,c=>by
  rw[DZ];split
  .rename_i h;rw[LZ,LZ];by_cases q:s.c=c
   .rw[Ih q,Ih q,Ih (q.symm.trans h)]
   .rw[Ii q,Ii q,Ii (λe=>q (h.trans e.symm))]
  .rename_i h;rw[LZ,LZ,c96 S c];by_cases q:s.c=c
   .rw[Ih q,Ih q,Ii (λe=>h (q.trans e))]
   .rw[Ii q,Ii q]
theorem b9i{over:Bool}{x:Stk}:∀(S:List Stk) (c:Cl),c∈(DZ over S x).map (·.c)↔c∈S.map (·.c)\/c=x.c
 | [],c=>by simp[DZ]
 |s::S,c=>by
  rw[DZ];split
  .rename_i h;simp only[K1,Iv];constructor
   .rintro(q|q)
    .exact .inl (.inl q)
    .exact .inl (.inr q)
   .rintro((q|q)|q)
    .exact .inl q
    .exact .inr q
    .exact .inl (q.trans h.symm)
  .simp only[K1,Iv,b9i S c];exact or_assoc.symm
def CZ(L:List Stk):Prop:=(L.map (·.c)).Nodup
theorem c9r{over:Bool}{x:Stk}:∀(S:List Stk),CZ S->CZ (DZ over S x)
 | [],_=>by simp[CZ,DZ]
 |s::S,h=>by
  unfold CZ at h⊢;rw[DZ];rw[K1,Kb]at h;split
  .rw[K1,Kb];exact h
  .rename_i q;rw[K1,Kb];refine⟨λa=> ?_,c9r S h.2⟩;rcases(b9i S s.c).1 a with a|a
   .exact h.1 a
   .exact q a
theorem d4m{over:Bool}{x:Stk}(hx:x.l≠[]):∀(S:List Stk),(∀s∈S,s.l≠[])->∀s∈DZ over S x,s.l≠[]
 | [],_=>λs hs=>by simp only[DZ,J6]at hs;subst hs;exact hx
 |t::S,h=>λs hs=>by
  rw[DZ]at hs;split at hs
  .rcases Iv.1 hs with rfl|hs
   .show MF over t.l x.l≠[];unfold MF;split<;>simp[hx]
   .exact h s (Je _ hs)
  .rcases Iv.1 hs with rfl|hs
   .exact h _ Dm
   .exact d4m hx S (λz a=>h z (Je _ a)) s hs
theorem b3j{over:Bool}{x:Stk}:∀(S:List Stk) (k:Nat),k<S.length->(∀j,j<k->(S.getD j AA.d).c≠x.c)->(S.getD k AA.d).c=x.c->DZ over S x=S.set k ⟨(S.getD k AA.d).c,MF over (S.getD k AA.d).l x.l⟩
 | [],k,h,_,_=>Dv
 |s::S,0,_,_,h=>by rw[DZ];have a:s.c=x.c:=h;rw[Ih a];rfl
 |s::S,k+1,h,b,e=>by rw[DZ];have a:s.c≠x.c:=b 0 Dj;rw[Ii a,b3j S k Dr (λj bm=>b (j+1) Dj) e];rfl
theorem Ws{over:Bool}{x:Stk}:∀(S:List Stk),(∀j,j<S.length->(S.getD j AA.d).c≠x.c)->DZ over S x=S++[x]
 | [],_=>rfl
 |s::S,h=>by rw[DZ];have a:s.c≠x.c:=h 0 Dm;rw[Ii a,Ws S (λj hj=>h (j+1) E8)];rfl
theorem c3p{over:Bool}:∀(A S:List Stk),CZ S->CZ (AR over S A)
 | [],_,h=>h
 |x::A,S,h=>by show CZ (AR over (DZ over S x) A);exact c3p A _ (c9r S h)
theorem d2c{over:Bool}:∀(A S:List Stk),(∀s∈A,s.l≠[])->(∀s∈S,s.l≠[])->∀s∈AR over S A,s.l≠[]
 | [],_,_,h=>h
 |x::A,S,a,h=>d2c A _ (λs hs=>a s (Je _ hs)) (d4m (a x Dm) S h)
theorem c58{over:Bool}:∀(A S:List Stk) (c:Cl),c∈(AR over S A).map (·.c)↔c∈S.map (·.c)\/c∈A.map (·.c)
 | [],S,c=>by simp[AR]
 |x::A,S,c=>by have:=c58 (over:=over) A (DZ over S x) c;have e:AR over S (x::A)=AR over (DZ over S x) A:=rfl;rw[e,this,b9i,K1,Iv];exact or_assoc
theorem c3x{L:List Stk}{c:Cl}(h:c∉L.map (·.c)):AX L c=[]:=by
 induction L with
 |nil=>rfl
 |cons s L a=>
  rw[K1,Iv,not_or]at h;rw[LZ,Ii (λq=>h.1 q.symm),a h.2]
theorem c08(over:Bool)(l:List Int):MF over l []=l:=by unfold MF;split<;>simp
theorem c35{over:Bool}:∀(A S:List Stk) (c:Cl),CZ A->AX (AR over S A) c=MF over (AX S c) (AX A c)
 | [],S,c,_=>by rw[b3i,c08];rfl
 |x::A,S,c,h=>by
  unfold CZ at h;rw[K1,Kb]at h;have e:AR over S (x::A)=AR over (DZ over S x) A:=rfl;rw[e,c35 A _ c h.2,c96,LZ];by_cases q:c=x.c
  .rw[Ih q,Ih q.symm,q,c3x h.1,c08]
  .rw[Ii q,Ii (λz=>q z.symm)]
theorem PC{L:List Stk}(h:CZ L){s:Stk}(hs:s∈L):AX L s.c=s.l:=by
 induction L with
 |nil=>cases hs
 |cons a L b=>
  unfold CZ at h;rw[K1,Kb]at h;rw[LZ];rcases Iv.1 hs with rfl|hs
  .rw[Ih rfl]
  .rw[Ii (λq=>h.1 (J4.2 ⟨s,hs,q.symm⟩))];exact b h.2 hs
theorem Qs(L:List Stk)(c:Cl):(∃s∈L,s.c=c)\/AX L c=[]:=by
 by_cases h:c∈L.map (·.c)
 .obtain⟨s,hs,e⟩:=J4.1 h;exact .inl ⟨s,hs,e⟩
 .exact .inr (c3x h)
theorem b9v{L M:List Stk}(a:CZ L)(h:L.Perm M)(c:Cl):AX L c=AX M c/\CZ M:=by
 have b:CZ M:=((h.map _).nodup_iff).1 a;refine⟨?_,b⟩;rcases Qs L c with⟨s,hs,rfl⟩|d
 .rw[PC a hs,PC b (h.mem_iff.1 hs)]
 .rcases Qs M c with⟨s,hs,rfl⟩|e
  .rw[PC b hs,PC a (h.mem_iff.2 hs)]
  .rw[d,e]
theorem d3s{K C sd:Int}:∀(L:List Stk) (c:Cl),AX (DM K C sd L) c=if CU K C c=sd then []else AX L c
 | [],c=>by simp[DM,b3i]
 |s::L,c=>by
  have a:=@d3s K C sd L c;unfold DM at a⊢;rw[List.filter_cons];by_cases h:CU K C s.c=sd
  .rw[Ii (by simp[h]),a,LZ];by_cases q:s.c=c
   .rw[Ih q,<-q,Ih h,Ih h]
   .rw[Ii q]
  .rw[Ih (by simp[h]),LZ,a,LZ];by_cases q:s.c=c
   .rw[Ih q,Ih q,<-q,Ii h]
   .rw[Ii q,Ii q]
theorem d0g{K C sd:Int}{c:Cl}(b:CP c):∀(L:List Stk),(∀s∈L,CP s.c)->AX (CW K C sd L) c=if CU K C (BK (BC K C) c)=sd then(AX L (BK (BC K C) c)).reverse else []
 | [],_=>by simp[CW,b3i]
 |s::L,d=>by
  have a:=@d0g K C sd c b L (λt g=>d t (Je _ g));have hs:=d s Dm;unfold CW at a⊢;have f:BK (BC K C) s.c=c↔s.c=BK (BC K C) c:=⟨λe=>by rw[<-e,Qc hs],λe=>by rw[e,Qc b]⟩
  rw[List.filter_cons];by_cases h:CU K C s.c=sd
  .rw[Ih (by simp[h]),K1,LZ,a,LZ];by_cases q:s.c=BK (BC K C) c
   .rw[Ih (f.2 q),Ih q,<-q,Ih h]
   .rw[Ii (λz=>q (f.1 z)),Ii q]
  .rw[Ii (by simp[h]),a,LZ];by_cases q:s.c=BK (BC K C) c
   .rw[Ih q,<-q,Ii h,Ii h]
   .rw[Ii q]
theorem c3w(x y:Stk):AW x y=decide (AZ (BN x.c) (BN y.c)<0):=by unfold AW;rw[TW]
theorem c04(M:List Stk):(NY M).Perm M:=b48 M
theorem f2h{M:List Stk}(h:CZ M):∀i j,i<j->j<(NY M).length->AZ (BN ((NY M).getD i AA.d).c) (BN ((NY M).getD j AA.d).c)<0:=by
 have a:(M.map λs=>BN s.c).Nodup:=by unfold CZ at h;rw[List.Nodup,Kf]at h⊢;exact h.imp λb e=>b (b7w e)
 exact d08 (key:=λs:Stk=>BN s.c) c3w a
theorem f1f{over:Bool}{K C sd:Int}{L:List Stk}(v:1<=K/\K<=4)(hsd:sd=0\/sd=1)(r:CZ L)(hq:∀s∈L,CP s.c)(u:∀s∈L,s.l≠[]):
 (∀c,CP c->AX (JN over K C sd L) c=DX (AX L) K C sd over c)/\CZ (JN over K C sd L)/\(∀s∈JN over K C sd L,s.l≠[]/\CP s.c)/\
 ∀i j,i<j->j<(JN over K C sd L).length->AZ (BN ((JN over K C sd L).getD i AA.d).c) (BN ((JN over K C sd L).getD j AA.d).c)<0:=by
 have w:CZ (DM K C sd L):=by unfold CZ DM;exact Mm (List.filter_sublist.map _) r
 have x:CZ (CW K C sd L):=by unfold CZ CW;rw[Lq];have g:((L.filter λs=>decide (CU K C s.c=sd)).map (·.c)).Nodup:=Mm (List.filter_sublist.map _) r;rw[List.Nodup,Kf]at g⊢;refine List.Pairwise.imp_of_mem (λ{a b} ha hb wd e=> ?_) g;exact Dg
 have k:=c3p (over:=over) (CW K C sd L) _ w;have m:=c04 (AR over (DM K C sd L) (CW K C sd L));have y:∀c,c∈(AR over (DM K C sd L) (CW K C sd L)).map (·.c)->CP c:=by
  intro c f;rcases(c58 _ _ c).1 f with h|h
  .obtain⟨s,hs,rfl⟩:=J4.1 h;exact hq s (Jx.1 hs).1
  .obtain⟨s,hs,rfl⟩:=J4.1 h;obtain⟨t,n,rfl⟩:=J4.1 hs;exact XY IZ (hq t (Jx.1 n).1)
 have o:∀s∈AR over (DM K C sd L) (CW K C sd L),s.l≠[]:=by refine d2c _ _ (λs hs=> ?_) (λs hs=>u s (Jx.1 hs).1);obtain⟨t,n,rfl⟩:=J4.1 hs;have:=u t (Jx.1 n).1;simpa using this
 refine⟨λc f=> ?_,(b9v k m.symm ⟨0,0,0⟩).2,λs hs=> ?_,λi j g z=>f2h k i j g z⟩
 .have e:AX (JN over K C sd L) c=AX (AR over (DM K C sd L) (CW K C sd L)) c:=((b9v k m.symm c).1).symm;rw[e,c35 _ _ c x,d3s,d0g f L hq];have hs:=@RJ K C c v f;have Zv:=@PU K C c;unfold DX;by_cases h:CU K C c=sd
  .rw[Ih h,Ii Dj,Ii (λq=>q.2 h),c3v]
  .rw[Ii h,Ih Dj,Ih ⟨f,h⟩];rfl
 .have hs':s∈AR over (DM K C sd L) (CW K C sd L):=m.mem_iff.1 hs;exact⟨o s hs',y s.c (J4.2 ⟨s,hs',rfl⟩)⟩
structure StG (p:Pt) (r:Mv) (L:List Stk) (P:Int->Mv) (B:Int):Prop where
 hp:BF p=0
 G:PlcG p P
 r0:P 0=r
 bd:∀i,AU p i->(-B<=(AV p P i).x/\(AV p P i).x<=B)/\ -B<=(AV p P i).y/\(AV p P i).y<=B
 lt:∀i j,i<j->j<L.length->AZ (BN (L.getD i AA.d).c) (BN (L.getD j AA.d).c)<0
 ne:∀s∈L,s.l≠[]
 S:StkF p P (AX L)
 N:NcG p P (AX L)
 D:Sa p P (AX L)
theorem c6z{L:List Stk}(lt:∀i j,i<j->j<L.length->AZ (BN (L.getD i AA.d).c) (BN (L.getD j AA.d).c)<0):CZ L:=by unfold CZ;rw[List.Nodup,Jr];intro i j b a h e;rw[Jp]at b a;rw[Lh,Lh]at e;have:=lt i j h a;rw[If,If,Ig b,Ig a]at this;simp only[K2]at this;rw[e]at this;have h2:=IV (BN L[j].c) (BN L[j].c);omega
theorem f0y:∀{l:List Int},l.Nodup->JW l=false
 | [],_=>rfl
 |x::l,h=>by obtain⟨h1,a⟩:=Kb.1 h;simp only[JW,Kv];exact⟨Ee,f0y a⟩
theorem f06:∀(n:Nat) (l:List Int),(∀x:Int,0<=x->x<n->x∈l)->n<=l.length
 |0,_,_=>Ix _
 |n+1,l,h=>by have a:=h (n:Int) Dj Dj;have:=f06 n (l.erase (n:Int)) (λx b h1=>(List.mem_erase_of_ne Dj).2 (h x b Dj));rw[List.length_erase_of_mem a]at this;have h2:=List.length_pos_of_mem a;omega
section
variable{p:Pt}{P Q:Int->Mv}{f:Cl->List Int}
theorem Sk(h:∀i,AU p i->Q i=P i){i:Int}(hi:AU p i):AV p Q i=AV p P i:=by unfold AV;rw[h i hi]
theorem Sj(h:∀i,AU p i->Q i=P i){i e:Int}(hi:AU p i):BX p Q i e=BX p P i e:=by unfold BX;rw[h i hi]
theorem nc_cg(h:∀i,AU p i->Q i=P i)(N:NcG p P f):NcG p Q f:=by
 refine⟨λi e j k c s q u d l=> ?_,λi e a k c g q r d n o=> ?_,λa k b m g l r kb d n o t=> ?_⟩
 .rw[Sj h c.1,Sj h s.1]at d;rw[Sk h c.1]at l;rw[Sj h c.1];exact N.pp i e j k c s q u d l
 .rw[Sj h c.1,Sj h g.1]at d;rw[Sk h c.1]at n o;exact N.pl i e a k c g q r d n o
 .rw[Sj h g.1,Sj h l.1]at d;rw[Sk h g.1]at n o t;exact N.ll a k b m g l r kb d n o t
theorem kd_cg(hs:AM p.W p.H=0)(h:∀i,AU p i->Q i=P i)(D:Sa p P f):Sa p Q f:=by intro a k b d c;rw[Sk h b.1]at c;rw[h _ (KH hs b.1 b.2.1 b.2.2).1];exact D a k b d c
end
namespace StG
variable{p:Pt}{r:Mv}{L:List Stk}{P:Int->Mv}{B:Int}
theorem hs(X:StG p r L P B):AM p.W p.H=0:=(FQ X.hp).1
theorem cells(X:StG p r L P B):CZ L:=c6z X.lt
theorem at_(X:StG p r L P B){s:Stk}(hs:s∈L):AX L s.c=s.l:=PC X.cells hs
theorem inSt(X:StG p r L P B){s:Stk}(hs:s∈L){v:Int}(a:v∈s.l):AU p v/\AV p P v=s.c:=(X.S.mem s.c v).1 (by rw[X.at_ hs];exact a)
theorem one(X:StG p r L P B){s:Stk}(hs:s∈L):∃v,v∈s.l/\AU p v/\AV p P v=s.c:=by
 cases hl:s.l with
 |nil=>exact absurd hl (X.ne s hs)
 |cons v l=>
  have a:v∈s.l:=by rw[hl];simp
  exact⟨v,by simp,X.inSt hs a⟩
theorem cQ(X:StG p r L P B){s:Stk}(hs:s∈L):CP s.c:=by obtain⟨v,_,a,b⟩:=X.one hs;rw[<-b];exact MQ X.hs X.G a
theorem cB(X:StG p r L P B){s:Stk}(hs:s∈L):(-B<=s.c.x/\s.c.x<=B)/\ -B<=s.c.y/\s.c.y<=B:=by obtain⟨v,_,a,b⟩:=X.one hs;rw[<-b];exact X.bd v a
theorem vm(X:StG p r L P B)(hB:B<=4000){i:Int}(hi:AU p i):vM (P i)/\vC (AV p P i):=by
 obtain⟨b,c⟩:=X.G.ok i hi;have a:=X.bd i hi;have d:=MQ X.hs X.G hi;have hc:=OY X.hs hi.1 hi.2;have hx:AV p P i=⟨(sq (P i).t (AH p.W p.H i).x (AH p.W p.H i).y).1+(P i).x,(sq (P i).t (AH p.W p.H i).x (AH p.W p.H i).y).2+(P i).y,tq (P i).t (AH p.W p.H i).q⟩:=rfl;have Z9:(-400<=(sq (P i).t (AH p.W p.H i).x (AH p.W p.H i).y).1/\(sq (P i).t (AH p.W p.H i).x (AH p.W p.H i).y).1<=400)/\ -400<=(sq (P i).t (AH p.W p.H i).x (AH p.W p.H i).y).2/\(sq (P i).t (AH p.W p.H i).x (AH p.W p.H i).y).2<=400:=by
  unfold sq;repeat' split
  all_goals(dsimp only;omega)
 refine⟨vM_of b c ?_ ?_,?_⟩
 .rw[hx]at a;simp only at a;omega
 .rw[hx]at a;simp only at a;omega
 .unfold vC;unfold CP at d;omega
theorem places(X:StG p r L P B)(a:B<=4000):CE p r=0/\∀i,AU p i->AO p r i=P i:=f6u X.hp X.G X.r0 λ_ b=>X.vm a b
theorem flat_mem(X:StG p r L P B)(v:Int):v∈CF L↔AU p v:=by
 unfold CF;rw[List.mem_flatMap];constructor
 .rintro⟨s,hs,a⟩;exact(X.inSt hs a).1
 .intro a;have h:=(X.S.mem (AV p P v) v).2 ⟨a,rfl⟩;rcases Qs L (AV p P v)with⟨s,hs,e⟩|b
  .rw[<-e,X.at_ hs]at h;exact⟨s,hs,h⟩
  .rw[b]at h;simp at h
theorem flat_nd(X:StG p r L P B):(CF L).Nodup:=by
 unfold CF;rw[List.Nodup,List.pairwise_flatMap];refine⟨λs hs=> ?_,?_⟩
 .have:=X.S.nd s.c;rw[X.at_ hs]at this;exact this
 .have a:=X.cells;unfold CZ at a;rw[List.Nodup,List.pairwise_map]at a;refine a.imp_of_mem λ{s t} hs b d x hx y f e=> ?_;subst e;exact d ((X.inSt hs hx).2.symm.trans (X.inSt b f).2)
theorem sk(X:StG p r L P B)(w:B<=4000):DP p r L=0:=by
 have hs:=X.hs;have hN:=DB hs;have hc:EK p.W p.H=4*p.W*p.H:=by unfold EK;rw[if_pos hs]
 obtain⟨z,E⟩:=X.places w;have F:0<=r.t:=by rw[<-X.r0];exact(X.G.ok 0 ⟨Int.le_refl _,by omega⟩).1.1
 have I:=Qb F z;have J:KI p.W p.H L=0:=by
  unfold KI;rw[if_pos hs,if_neg,if_neg,if_neg]
  .have:AG p.W p.H<=(CF L).length:=f06 _ _ λx A K=>(X.flat_mem x).2 ⟨A,by omega⟩;omega
  .rw[f0y X.flat_nd];decide
  .intro f;obtain⟨i,j,f⟩:=List.any_eq_true.1 f;have C:=List.mem_range.1 j;have k:=Do (d:=AA.d) C;have m:=X.cQ k;have M:=X.cB k;have N:=X.ne _ k;unfold CP at m;unfold MV at f;have O:EH (L.getD i AA.d).c.x (L.getD i AA.d).c.y (L.getD i AA.d).c.q=0:=by unfold EH;rw[if_pos (by omega)]
   have Q:(decide (0<(i:Int))&&decide (0<=FF (L.getD ((i:Int)-1).toNat AA.d).c.x (L.getD ((i:Int)-1).toNat AA.d).c.y (L.getD ((i:Int)-1).toNat AA.d).c.q (L.getD i AA.d).c.x (L.getD i AA.d).c.y (L.getD i AA.d).c.q))=false:=by
    by_cases A:0<i
    .have:=X.lt ((i:Int)-1).toNat i (by omega) C;rw[<-TW]at this;rw[Bool.and_eq_false_iff];right;exact decide_eq_false (by omega)
    .rw[decide_eq_false (by omega)];rfl
   have R:decide (((L.getD i AA.d).l.length:Int)=0)=false:=decide_eq_false λh=>N (List.eq_nil_of_length_eq_zero (by omega));have S:(L.getD i AA.d).l.any (Mw (EK p.W p.H))=false:=by rw[List.any_eq_false];intro v o;have g:=(X.inSt k o).1;unfold AU at g;unfold Mw;rw[Bool.or_eq_true,decide_eq_true_eq,decide_eq_true_eq];omega
   rw[O,Q,R,S]at f;simp at f
 unfold DP;rw[if_pos z,if_pos J,if_neg,if_neg]
 .intro f;obtain⟨s,n,f⟩:=List.any_eq_true.1 f;obtain⟨e,T,f⟩:=List.any_eq_true.1 f;have dg:=List.mem_range.1 T;have m:=X.cQ n;have M:=X.cB n;have u:=@LQ s.c (e:Int) m (by omega);unfold PH at f;unfold CP at m;have:FO s.c.x s.c.y s.c.q e=0:=by
   have K:(-4096<=DR s.c.q e+s.c.x/\DR s.c.q e+s.c.x<=4096)/\(-4096<=DU s.c.q e+s.c.y/\DU s.c.q e+s.c.y<=4096)/\0<=DW s.c.q e/\DW s.c.q e<=3:=by have a:(AP s.c e).x=DR s.c.q e+s.c.x:=rfl;have b:(AP s.c e).y=DU s.c.q e+s.c.y:=rfl;have c:(AP s.c e).q=DW s.c.q e:=rfl;rw[a,b,c]at u;omega
   unfold FO;rw[if_pos ⟨by unfold EH;rw[if_pos (by omega)],by omega⟩,if_pos];unfold EH;rw[if_pos (by omega)]
  rw[this]at f;simp at f
 .intro f;obtain⟨s,n,f⟩:=List.any_eq_true.1 f;obtain⟨v,o,f⟩:=List.any_eq_true.1 f;obtain⟨g,U⟩:=X.inSt n o;have V:((v.toNat:Nat):Int)=v:=by have:=g.1;omega
  have j:=(I.im v.toNat (by have:=g.1;have:=g.2;omega)).1;rw[V]at j;have Y:=X.vm w g;have Z:(BL p r).getD v.toNat AE.d=P v:=E v g;have hw:=OY hs g.1 g.2;rw[Z,Vg Y.1 (by omega)]at j;unfold ND at f;rw[j]at f;have:BK (P v) (AH p.W p.H v)=s.c:=U;rw[this]at f;simp at f
theorem valid(X:StG p r L P B)(a:B<=4000):FJ p r L=0:=by
 have h:=X.sk a;obtain⟨h1,b⟩:=X.places a;have hs:=X.hs;have hN:=DB hs;refine chk_ok h ?_ (λs d=> ?_) (nc_cg b X.N) (kd_cg hs b X.D)
 .rw[<-X.r0];exact(X.G.ok 0 ⟨Int.le_refl _,by omega⟩).1.1
 .have:=X.cQ d;unfold CP at this;exact⟨this.1,by show s.c.q<=255;omega⟩
end StG
def JU(x y:Cr):Bool:=decide (x.c<y.c)||(decide (x.c=y.c)&&decide (x.e<y.e))
theorem d8a(x y:Cr):JU x y=decide (AZ (LY x) (LY y)<0):=by
 have:AZ (LY x) (LY y)<0↔x.c<y.c\/x.c=y.c/\x.e<y.e:=by
  simp only[LY,AZ,CJ];repeat' split
  all_goals omega
 unfold JU;rw[Ku,Jn,Jc,Is,Is,Is,Is];exact this.symm
theorem c4b(x y:Cr):HZ x.c x.e y.c y.e<0↔AZ (LY x) (LY y)<0:=by
 simp only[LY,AZ,CJ,HZ];repeat' split
 all_goals omega
structure Pas where
 a:Int
 b:Int
 K:Int
 C:Int
 deriving DecidableEq
def Nt(p:Pt)(P:Int->Mv)(j:Nat):Option Pas:=
 if BB p.W p.H (uA j) ((j%3:Nat):Int)<uA j\/JG p.W p.H p.l j≠0 then none
 else some ⟨uA j,BB p.W p.H (uA j) ((j%3:Nat):Int),(GA (CV (AV p P (uA j))) (CV (AV p P (BB p.W p.H (uA j) ((j%3:Nat):Int))))).1,(GA (CV (AV p P (uA j))) (CV (AV p P (BB p.W p.H (uA j) ((j%3:Nat):Int))))).2⟩
def GP(p:Pt)(P:Int->Mv)(n:Nat):List Pas:=(List.range n).filterMap (Nt p P)
def UJ(p:Pt)(P:Int->Mv)(over:Bool)(x:Pas):Cr:=⟨x.a,Sy p.W p.H x.a x.b,FdG.nkG P over x.a⟩
def NJ(K C:Int)(x:Pas):Bool:=decide (x.K=K)&&decide (x.C=C)
def KY(p:Pt)(P:Int->Mv)(K C:Int)(over:Bool):List Cr:=((GP p P (3*AG p.W p.H)).filter (NJ K C)).map (UJ p P over)
def NQ(l:List Cr):List Cr:=FZ d0 JU 0 l.length l
def FA(p:Pt)(P:Int->Mv)(K C:Int)(over:Bool):Pt:=⟨p.W,p.H,NQ (p.l++KY p P K C over)⟩
section
variable{p:Pt}{P:Int->Mv}{K C:Int}{over:Bool}
theorem d1e(f:BF p=0)(G:PlcG p P){j:Nat}(hj:j<3*AG p.W p.H){x:Pas}(h:Nt p P j=some x):CX p (uA j) (uE j)/\Al p (uA j) (uE j)=0/\uA j<Ao p (uA j) (uE j)/\x=⟨uA j,Ao p (uA j) (uE j),(GA (CV (AV p P (uA j))) (CV (BX p P (uA j) (uE j)))).1,(GA (CV (AV p P (uA j))) (CV (BX p P (uA j) (uE j)))).2⟩:=by
 have hs:=(FQ f).1;have hN:=DB hs;have a:AU p (uA j):=⟨by show (0:Int)<=((j/3:Nat):Int);omega,by show ((j/3:Nat):Int)<_;omega⟩
 unfold Nt at h;split at h
 .cases h
 .rename_i g;rw[not_or,Classical.not_not]at g;obtain⟨i,c⟩:=g;have b:AQ p.W p.H (uA j) (uE j)=0:=by
   by_cases q:AQ p.W p.H (uA j) (uE j)=0
   .exact q
   .exfalso;have:BB p.W p.H (uA j) ((j%3:Nat):Int)= -1:=Ii q;rw[this]at i;have:=a.1;omega
  have k:BB p.W p.H (uA j) ((j%3:Nat):Int)=Ao p (uA j) (uE j):=Ih b;have l:CX p (uA j) (uE j):=⟨a,LM,b⟩
  rw[d2m f b]at c;rw[k]at i h;obtain⟨q1,m,q3⟩:=NA hs G a LM b c;have ba:Ao p (uA j) (uE j)≠uA j:=λe=>by have:=(KH hs a LM b).2.1;have n:AF p.W p.H (uA j) (uE j)=uA j:=e;rw[n]at this;exact WY (LN hs a) LM this.symm
  refine⟨l,c,Dj,?_⟩;have d:AV p P (Ao p (uA j) (uE j))=BX p P (uA j) (uE j):=m;rw[d]at h;exact(Jj h).symm
theorem f5v(g:BF p=0)(G:PlcG p P){a e:Int}(b:CX p a e)(i:Al p a e=0)(hl:a<Ao p a e):∃j,j<3*AG p.W p.H/\uA j=a/\uE j=e/\Nt p P j=some ⟨a,Ao p a e,(GA (CV (AV p P a)) (CV (BX p P a e))).1,(GA (CV (AV p P a)) (CV (BX p P a e))).2⟩:=by
 have hs:=(FQ g).1;have hN:=DB hs;have k:=b.1;unfold AU at k;obtain⟨c,l⟩:=VH k.1 (Oz (q:=a%4) (e:=e));have sc:=@Oz (a%4) e;have d:uE (3*a+DG (a%4) e).toNat=e:=by unfold uE;rw[c,l,SC NO b.2.1]
 refine⟨(3*a+DG (a%4) e).toNat,Dj,c,d,?_⟩;have n:AQ p.W p.H (uA (3*a+DG (a%4) e).toNat) (uE (3*a+DG (a%4) e).toNat)=0:=by rw[c,d];exact b.2.2
 have m:=d2m g n;rw[c,d,i]at m;obtain⟨q1,o,q3⟩:=NA hs G b.1 b.2.1 b.2.2 i;have r:BB p.W p.H a ((DG (a%4) e:Nat):Int)=Ao p a e:=d48 b.2.1 b.2.2;have f:AV p P (Ao p a e)=BX p P a e:=o;unfold Nt;rw[c,l,r,Ii (by rw[m];omega),f]
theorem XA(g:BF p=0)(G:PlcG p P){x:Pas}:x∈GP p P (3*AG p.W p.H)↔∃a e,CX p a e/\Al p a e=0/\a<Ao p a e/\x=⟨a,Ao p a e,(GA (CV (AV p P a)) (CV (BX p P a e))).1,(GA (CV (AV p P a)) (CV (BX p P a e))).2⟩:=by
 unfold GP;rw[M2];constructor
 .rintro⟨j,b,h⟩;obtain⟨c,d,f,i⟩:=d1e g G (Jk.1 b) h;exact⟨uA j,uE j,c,d,f,i⟩
 .rintro⟨a,e,c,d,f,rfl⟩;obtain⟨j,b,_,_,h⟩:=f5v g G c d f;exact⟨j,Jk.2 b,h⟩
theorem c6n(f:BF p=0)(G:PlcG p P){c:Cr}:c∈KY p P K C over↔∃a e,CX p a e/\Al p a e=0/\a<Ao p a e/\JD p P K C a e/\c=⟨a,e,FdG.nkG P over a⟩:=by
 have hs:=(FQ f).1;unfold KY;rw[J4];constructor
 .rintro⟨x,hx,rfl⟩;obtain⟨hx,d⟩:=Jx.1 hx;obtain⟨a,e,b,g,h,rfl⟩:=(XA f G).1 hx;unfold NJ at d;rw[Jc,Is,Is]at d;refine⟨a,e,b,g,h,Prod.ext d.1 d.2,?_⟩;unfold UJ;simp only;rw[b93 hs b.1 b.2.1 b.2.2 rfl]
 .rintro⟨a,e,b,g,h,d,rfl⟩;refine⟨⟨a,Ao p a e,(GA (CV (AV p P a)) (CV (BX p P a e))).1,(GA (CV (AV p P a)) (CV (BX p P a e))).2⟩,Jx.2 ⟨(XA f G).2 ⟨a,e,b,g,h,rfl⟩,?_⟩,?_⟩
  .have i:GA (CV (AV p P a)) (CV (BX p P a e))=(K,C):=d;unfold NJ;rw[i];simp
  .unfold UJ;simp only;rw[b93 hs b.1 b.2.1 b.2.2 rfl]
theorem f70{l:List Cr}(h:RI l):(l.map LY).Nodup:=by rw[List.Nodup,Jr];intro i j b a c e;rw[Jp]at b a;rw[Lh,Lh]at e;have:=h i j c a;rw[If,If,Ig b,Ig a]at this;simp only[K2]at this;rw[c4b,e,Tp]at this;omega
theorem nw_nd(b:BF p=0)(G:PlcG p P):((KY p P K C over).map LY).Nodup:=by unfold KY GP;rw[Lq,List.Nodup,Kf];refine List.Pairwise.filter _ ?_;rw[List.pairwise_filterMap];refine List.Pairwise.imp_of_mem (λ{i j} f g k x hx y l e=> ?_) List.nodup_range;obtain⟨c,x2,x3,rfl⟩:=d1e b G (Jk.1 f) hx;obtain⟨a,y2,y3,rfl⟩:=d1e b G (Jk.1 g) l;have hs:=(FQ b).1;simp only[Function.comp_def,LY,UJ,Ia]at e;rw[b93 hs c.1 c.2.1 c.2.2 rfl,b93 hs a.1 a.2.1 a.2.2 rfl]at e;have d:uA i=uA j:=e.1;have m:uE i=uE j:=e.2;have k1:i%3=DG (uA j%4) (uE j):=(VF (q:=uA j%4) NO a.2.1 (i%3) Dj).1 (by rw[<-d];exact m);have k2:j%3=DG (uA j%4) (uE j):=(VF (q:=uA j%4) NO a.2.1 (j%3) Dj).1 rfl;refine k ?_;rw[<-uMul i,<-uMul j,d,k1,k2]
theorem d7s(d:BF p=0)(G:PlcG p P){c:Cr}(f:c∈KY p P K C over):AU p c.c/\(0<=c.e/\c.e<3)/\AQ p.W p.H c.c c.e=0/\DT p.W p.H c.c c.e=c.c/\ER p.W p.H c.c c.e=c.e/\(c.k=1\/c.k=2)/\Al p c.c c.e=0:=by
 obtain⟨a,e,b,g,h,ho,rfl⟩:=(c6n d G).1 f;refine⟨b.1,b.2.1,b.2.2,?_,?_,?_,g⟩
 .unfold DT;rw[Ih b.2.2];have i:a<AF p.W p.H a e:=h;exact Int.min_eq_left (Int.le_of_lt i)
 .unfold ER;rw[Ih b.2.2]
 .show FdG.nkG P over a=1\/FdG.nkG P over a=2;unfold FdG.nkG;split
  .exact .inr rfl
  .exact .inl rfl
theorem b5p(l:List Cr):(NQ l).Perm l:=b48 l
theorem f50(d:BF p=0)(h:∀c∈p.l,AD .u8 c.e)(G:PlcG p P):((p.l++KY p P K C over).map LY).Nodup:=by
 rw[L5,List.nodup_append];refine⟨f70 (b7i d),nw_nd d G,λa i b j e=> ?_⟩;subst e;obtain⟨x,hx,rfl⟩:=J4.1 i;obtain⟨y,k,e⟩:=J4.1 j;obtain⟨c1,c2,g,m⟩:=d03 d h hx;obtain⟨d1,d2,d3,d4,d5,d6,f⟩:=d7s d G k;simp only[LY,Ia]at e;rw[e.1,e.2]at f;have n:GF (DJ p.W p.H x.c x.e) x=true:=by unfold GF DJ ER;rw[m,Ih g];simp
 rw[TY d g hx n]at f;have:=J5.1 (FQ d).2.1 x hx;simp[MI,PM,f]at this
theorem d4s(f:BF p=0)(g:∀c∈p.l,AD .u8 c.e)(G:PlcG p P):BF (FA p P K C over)=0/\∀c∈(FA p P K C over).l,AD .u8 c.e:=by
 obtain⟨hs,o,r,_⟩:=FQ f;have s:=b5p (p.l++KY p P K C over);have b:∀c,c∈(FA p P K C over).l↔c∈p.l\/c∈KY p P K C over:=λc=>by show c∈NQ _↔_;rw[s.mem_iff,Jd]
 refine⟨?_,λc a=> ?_⟩
 .unfold BF;rw[Ih (show AM (FA p P K C over).W (FA p P K C over).H=0 from hs),Ii,Ii,Ii]
  .intro h;obtain⟨i,t,h⟩:=J3.1 h;have b8:=Jk.1 t;unfold Ng at h;rw[Is]at h;have:=d08 (d:=d0) (lt:=JU) (key:=LY) d8a (f50 (K:=K) (C:=C) (over:=over) f g G) i (i+1) Dj (by show i+1<(FA p P K C over).l.length;omega);have u:=(c4b _ _).2 this;have h3:HZ ((FA p P K C over).l.getD i d0).c ((FA p P K C over).l.getD i d0).e ((FA p P K C over).l.getD (i+1) d0).c ((FA p P K C over).l.getD (i+1) d0).e<0:=u;omega
  .intro h;obtain⟨c,a,h⟩:=J3.1 h;rcases(b c).1 a with a|a
   .exact J5.1 r c a h
   .obtain⟨v,w,j,k,m,n,x⟩:=d7s f G a;have y:AQ (FA p P K C over).W (FA p P K C over).H c.c c.e=0:=j;have z:DT (FA p P K C over).W (FA p P K C over).H c.c c.e=c.c:=k;have A:ER (FA p P K C over).W (FA p P K C over).H c.c c.e=c.e:=m;unfold OW at h;rw[y,z,A]at h;simp at h
  .intro h;obtain⟨c,a,h⟩:=J3.1 h;rcases(b c).1 a with a|a
   .exact J5.1 o c a h
   .obtain⟨v,w,j,k,m,n,x⟩:=d7s f G a;unfold MI PM at h;rcases n with q|q<;>(rw[q]at h;simp at h)
 .rcases(b c).1 a with a|a
  .exact g c a
  .have:=(d7s f G a).2.1;exact⟨this.1,by show c.e<=255;omega⟩
theorem d1v(hs:AM p.W p.H=0)(G:PlcG p P){i e:Int}(h:CX p i e)(g:Al p i e=0):JD p P K C (Ao p i e) e↔JD p P K C i e:=by obtain⟨q1,j,k⟩:=NA hs G h.1 h.2.1 h.2.2 g;have d:AV p P (Ao p i e)=BX p P i e:=j;have f:BX p P (Ao p i e) e=AV p P i:=k;have b:=MQ hs G h.1;have a:=TK (t:=(P i).t) h.2.1;show GA (CV (AV p P (Ao p i e))) (CV (BX p P (Ao p i e) e))=(K,C)↔GA (CV (AV p P i)) (CV (BX p P i e))=(K,C);rw[d,f,c66 hs G h.1 h.2.1,d3d b a];have:=d3d (c:=AP (AV p P i) (NX (P i).t e)) (d8k b a) a;rw[Tz b a,(d1u b a).1,(d1u b a).2]at this;rw[this]
theorem fd_K(b:BF p=0)(z:∀c∈p.l,AD .u8 c.e)(G:PlcG p P):FdK p (FA p P K C over) P K C (λi _=>FdG.nkG P over i):=by
 obtain⟨hs,A,hn,_⟩:=FQ b;obtain⟨r,gc⟩:=d4s (K:=K) (C:=C) (over:=over) b z G;have B:=b5p (p.l++KY p P K C over);have g:∀c,c∈(FA p P K C over).l↔c∈p.l\/c∈KY p P K C over:=λc=>by show c∈NQ _↔_;rw[B.mem_iff,Jd]
 refine⟨rfl,rfl,λi e n o d=> ?_,λi e=> ?_⟩
 .have s:AQ (FA p P K C over).W (FA p P K C over).H i e=0:=d;have m:CX p i e:=⟨n,o,d⟩
  have t:DJ p.W p.H i e=[min i (Ao p i e),e]:=by unfold DJ DT ER;rw[if_pos d,if_pos d]
  by_cases k:Al p i e=0
  .rw[Ii (λq=>q k)];obtain⟨E,q2,q3⟩:=NA hs G n o d k;have u:P (Ao p i e)=P i:=E;by_cases j:JD p P K C i e
   .rw[Ih j];obtain⟨F,I⟩:=Pm hs m;have nq:Ao p i e≠i:=λq=>by
     have:=(KH hs n o d).2.1;have J:AF p.W p.H i e=i:=q;rw[J]at this;exact WY (LN hs n) o this.symm
    have hx:∃x∈KY p P K C over,GF (DJ p.W p.H i e) x=true/\x.k=FdG.nkG P over i:=by
     by_cases L:i<Ao p i e
     .refine⟨⟨i,e,FdG.nkG P over i⟩,(c6n b G).2 ⟨i,e,m,k,L,j,rfl⟩,?_,rfl⟩;unfold GF;rw[t,Int.min_eq_left Dj];simp
     .refine⟨⟨Ao p i e,e,FdG.nkG P over (Ao p i e)⟩,(c6n b G).2 ⟨Ao p i e,e,F,by rw[Ps hs b m];exact k,by rw[I];omega,(d1v hs G m k).2 j,rfl⟩,?_,?_⟩
      .unfold GF;rw[t,Int.min_eq_right Dj];simp
      .show FdG.nkG P over (Ao p i e)=_;unfold FdG.nkG;rw[u]
    obtain⟨x,M,N,v⟩:=hx;have:=TY r s ((g x).2 (.inr M)) N;rw[this,v]
   .rw[Ii j];refine c32 r s ?_;show (FA p P K C over).l.any (GF (DJ p.W p.H i e))=false;rw[J5];intro x hx f;rcases(g x).1 hx with hx|hx
    .have w:=TY b d hx f;rw[k]at w;have:=J5.1 A x hx;simp[MI,PM,<-w]at this
    .obtain⟨a,e',w,h2,h3,y,rfl⟩:=(c6n b G).1 hx;unfold GF at f;rw[t,Is]at f;simp only[Ia]at f;obtain⟨gv,rfl⟩:=f;have O:i=a\/Ao p i e=a:=Dj;rcases O with rfl|Q
     .exact j y
     .rw[<-Q]at y;exact j ((d1v hs G m k).1 y)
  .rw[Ih k];obtain⟨x,hx,f⟩:=d4z ((Ur b d).2 k);rw[TY b d hx f];exact TY r s ((g x).2 (.inl hx)) f
 .show FdG.nkG P over i≠0;unfold FdG.nkG;split<;>omega
end
def IC:RT Pas:=⟨4,λx=>[.int .i64 x.a,.int .i64 x.b,.int .u8 x.K,.int .i64 x.C],λl=>match l with
 | [.int _ a,.int _ b,.int _ c,.int _ d]=>⟨a,b,c,d⟩
 |_=>⟨0,0,0,0⟩,⟨0,0,0,0⟩,λ_=>rfl⟩
section
variable{p:Pt}{r:Mv}{P:Int->Mv}
theorem d88{j:Nat}(h:Nt p P j=none):GP p P (j+1)=GP p P j:=by unfold GP;rw[List.range_succ,List.filterMap_append];simp[h]
theorem d99{j:Nat}{x:Pas}(h:Nt p P j=some x):GP p P (j+1)=GP p P j++[x]:=by unfold GP;rw[List.range_succ,List.filterMap_append];simp[h]
theorem f4j(n:Nat):(GP p P n).length<=n:=by unfold GP;refine Ke (List.length_filterMap_le _ _) ?_;simp
theorem d8y{a k:Nat}(hk:k<3):uA (3*a+k)=a/\(3*a+k)%3=k:=by
 constructor
 .show (((3*a+k)/3:Nat):Int)=a;omega
 .omega
theorem pas_no{a k:Nat}(b:k<3)(h:BB p.W p.H a k<a\/¬JG p.W p.H p.l (3*a+k)=0):Nt p P (3*a+k)=none:=by unfold Nt;rw[(d8y b).1,(d8y b).2,Ih h]
theorem f7z{a k:Nat}(b:k<3)(h:¬BB p.W p.H a k<a/\JG p.W p.H p.l (3*a+k)=0):Nt p P (3*a+k)=some ⟨a,BB p.W p.H a k,(GA (CV (AV p P a)) (CV (AV p P (BB p.W p.H a k)))).1,(GA (CV (AV p P a)) (CV (AV p P (BB p.W p.H a k)))).2⟩:=by unfold Nt;rw[(d8y b).1,(d8y b).2,Ii Dj]
theorem d1c{j:Nat}(a:j<3*AG p.W p.H):(Hl p).getD j OR.d=JG p.W p.H p.l j:=by unfold Hl;rw[If,Jb,Mi a];rfl
end
theorem sq_le{t X Y:Int}(hx:0<=X/\X<=300)(hy:0<=Y/\Y<=300):(-400<=(sq t X Y).1/\(sq t X Y).1<=400)/\ -400<=(sq t X Y).2/\(sq t X Y).2<=400:=by
 unfold sq;repeat' split
 all_goals(dsimp only;omega)
theorem f1r{p:Pt}{P:Int->Mv}(hs:AM p.W p.H=0){a:Int}(b:AU p a):CV (AV p P a)=((sq (P a).t (a/4%p.W) (a/4/p.W)).1+(P a).x,(sq (P a).t (a/4%p.W) (a/4/p.W)).2+(P a).y,tq (P a).t (a%4)):=by unfold AV CV BK;rw[IK hs b.1 b.2]
def rPs28(p:Pt)(r:Mv):SV:=.sl 4 (GP p (AO p r) (3*AG p.W p.H)).length (IC.row (GP p (AO p r) (3*AG p.W p.H))) none
def WQ:AK
 | [x]=>(KU x).map λq=>(q.1/\CE q.2.1 q.2.2.1=0,rPs28 q.2.1 q.2.2.1)
 |_=>none
def FPs28:Fam:=⟨Pt×Mv×List Stk,λ(p,r,L)=>[.agg (EF p r L)],λ(p,r,L)=>(EL p r/\FK L)/\CE p r=0,λ(p,r,_)=>rPs28 p r⟩
def psEn(p:Pt)(r:Mv)(a:List Entry):List Entry:=a++[⟨6,none,.osl 1⟩,⟨5,none,.sl 1 (Hl p).length (OR.row (Hl p)) none⟩,⟨3,none,.sl 3 (BL p r).length (AE.row (BL p r)) none⟩,⟨1,none,.own 0 0⟩]
def Vs(p:Pt)(r:Mv)(L:List Stk)(n:Nat):List Blk:=[.cells 31 (EF p r L),.row 170 4 (GP p (AO p r) n).length (IC.row (GP p (AO p r) n)) none]
def IPs28:Pt×Mv×List Stk->Nat->Option Inv
 |(p,r,L),5=>some {β:=Nat,ok:=λa=>a<=AG p.W p.H,st:=λa=>⟨psEn p r [⟨7,none,.int .i64 a⟩],Vs p r L (3*a)⟩,μ:=λa=>AG p.W p.H-a,nl:=[.slot 6 170 4],sub:=λa=>some fun
  |8=>some {β:=Nat,ok:=λk=>k<=3/\a<AG p.W p.H,st:=λk=>⟨psEn p r [⟨8,none,.int .i64 k⟩,⟨7,none,.int .i64 a⟩],Vs p r L (3*a+k)⟩,μ:=λk=>3-k}
  |_=>none}
 |_,_=>none
theorem pFPs28:PF 84 WQ:=by
 refine conF {l:=[(25,Wa),(57,VT),(58,SR),(37,RN),(20,XN),(125,Xx)]} ⟨by simpa using⟨pPl25,pTab,d7b,VV,pImg,pBe28⟩,Dm,Dm⟩ FPs28 IPs28 WQ ?_ ?_ Tryz.func84 Dk Dk Dk ?_
 .intro args pre s h O;unfold WQ at h;split at h
  .simp only[Hx]at h;obtain⟨⟨q,p,r,L⟩,hx,rfl,rfl⟩:=h;obtain⟨g,A,b⟩:=PD hx O.1;exact⟨(p,r,L),⟨g,Im⟩,⟨⟨A,b⟩,O.2⟩,rfl⟩
  .cases h
 .exact Bu
 .rintro⟨p,r,L⟩ ⟨⟨⟨⟨Q,S⟩,B⟩,hL⟩,w⟩;obtain⟨C,hmv,_,_⟩:=VK w;obtain⟨G,G0,z⟩:=f15 B.1 w;have V:=Qb B.1 w;have fq:=V.pl;have hs:=(FQ C).1;have hN:=DB hs;have Zy:=b3r p;refine X0 _ ?_;(repeat' first|constructor|intro h)<;>refine Lm ?_
  all_goals(try simp only[CL,Sx,SS]at*)
  all_goals(try first
   |exact⟨⟨⟨⟨EY _,Q⟩,S⟩,B⟩,w⟩
   |exact⟨⟨EY _,Q⟩,S,C⟩)
  refine⟨(0:Nat),Ix _,?_,?_⟩
  .exact X1a
  .intro a T;replace T:a<=AG p.W p.H:=T;refine X0 _ ?_;(repeat' first|constructor|intro h)<;>refine Lm ?_
   all_goals(try simp only[Hv]at*)
   all_goals(try first|exact Ap)
   .have E:a<AG p.W p.H:=Dj;refine⟨(0:Nat),⟨by show 0<=3;omega,E⟩,?_,?_⟩
    .exact X1b
    .intro k F;replace F:k<=3/\a<AG p.W p.H:=F;obtain⟨k1,_⟩:=F;have m:AU p (a:Int):=⟨Dj,Dj⟩
     have hj:k<3->3*a+k<3*AG p.W p.H:=λh=>Dj;have X:(3*(a:Int)+(k:Int)).toNat=3*a+k:=Dj;have U:=z a m;have Y:=PR U;have hxa:=OH U;unfold FL at Y;have hpls:∀u,AU p u->(BL p r).getD u.toNat AE.d=AO p r u:=λu _=>rfl;have hw:=HE hs;have I:∀u,AU p u->(0<=u/4%p.W/\u/4%p.W<=300)/\(0<=u/4/p.W/\u/4/p.W<=300)/\0<=u%4/\u%4<=3:=λu c=>by have:=OY hs c.1 c.2;rw[IK hs c.1 c.2]at this;exact this
     have Z:(BL p r).getD a AE.d=AO p r a:=by unfold AO;rw[Int.toNat_natCast]
     have J:(BL p r).getD (BB p.W p.H a k).toNat AE.d=AO p r (BB p.W p.H a k):=rfl;have n:∀u,AU p u->((0<=(AO p r u).t/\(AO p r u).t<=7)/\((-50000<=(AO p r u).x/\(AO p r u).x<=50000)/\ -50000<=(AO p r u).y/\(AO p r u).y<=50000)/\(-30000<=u/4%p.W/\u/4%p.W<=30000)/\(-30000<=u/4/p.W/\u/4/p.W<=30000)/\0<=u%4/\u%4<=3)/\(-30000<=(sq (AO p r u).t (u/4%p.W) (u/4/p.W)).1+(AO p r u).x/\(sq (AO p r u).t (u/4%p.W) (u/4/p.W)).1+(AO p r u).x<=30000)/\(-30000<=(sq (AO p r u).t (u/4%p.W) (u/4/p.W)).2+(AO p r u).y/\(sq (AO p r u).t (u/4%p.W) (u/4/p.W)).2+(AO p r u).y<=30000)/\0<=tq (AO p r u).t (u%4)/\tq (AO p r u).t (u%4)<=3:=λu c=>by have g:=PR (z u c);have A:=OH (z u c);have b:=I u c;have h4:=@sq_le (AO p r u).t _ _ b.1 b.2.1;have h5:=d93 (FC (z u c)) b.2.2;unfold FL at g;refine⟨⟨g,⟨Dj,Dj⟩,Dj,Dj,Dj⟩,Dj,Dj,h5⟩
     have o:=n a m;have K:k<3->¬BB p.W p.H a k<a->AU p (BB p.W p.H a k):=λg A=>(pl_nb C m g Dj).2.2.1;refine X0 _ ?_;(repeat' first|constructor|intro h)<;>refine Lm ?_
     all_goals(try simp only[Hv,X,Z,J,I7,Hw]at*)
     all_goals(try first
      |exact Ap
      |exact⟨hs,m.1,m.2⟩
      |(intro _;exact⟨Dj,Dj⟩)
      |exact Am)
     .refine⟨k+1,⟨Eb,E⟩,Ec,?_⟩;have b:k<3:=Dj;rw[d1c (hj b)]at h;have e:=d88 (P:=AO p r) (pas_no b h);rw[Kq]at e;dsimp only[Vs];rw[e];exact X1d
     all_goals
      first
       |(have b:k<3:=by omega
         have M:=K b h.1;have N:=M;unfold AU at N;have v:=n _ M;first
          |exact Ax
          |exact o.1
          |exact v.1
          |exact At
          |exact⟨o.2,v.2⟩
          |(have:=@f4j p (AO p r) (3*a+k);refine⟨Dj,?_⟩;exact LC Dk Dj)
          |(rw[d1c (hj b)]at h
            refine⟨k+1,⟨Eb,E⟩,Ec,?_⟩;have e:=d99 (P:=AO p r) (f7z b h);rw[f1r hs m,f1r hs M,Kq]at e;dsimp only[Vs];rw[e,Jm,Mb];all_goals refine X0 _ ?_;(repeat' first|constructor|intro h)<;>refine Lm ?_
            all_goals first|exact An|exact Ud (R:=IC) rfl|skip))
       |(have b:k=3:=by omega
         subst b;refine⟨a+1,by show a+1<=_;omega,by show AG p.W p.H-(a+1)<AG p.W p.H-a;omega,?_⟩;have e:3*(a+1)=3*a+3:=Dj;dsimp only[Vs];rw[e];all_goals refine X0 _ ?_;(repeat' first|constructor|intro h)<;>refine Lm ?_
         all_goals first|exact An|skip)
       |skip
   all_goals
    have ea:a=AG p.W p.H:=Dj;subst ea;first|exact A8|skip
theorem pPs28:PS 84 WQ:=pFPs28.1
theorem af_lt(x y:Stk):Xd (x.c.x,x.c.y,x.c.q) (y.c.x,y.c.y,y.c.q)=1↔AW y x=true:=by
 rw[c3w,Is];have:AZ (BN y.c) (BN x.c)<0↔y.c.y<x.c.y\/x.c.y=y.c.y/\(y.c.x<x.c.x\/x.c.x=y.c.x/\y.c.q<x.c.q):=by
  simp only[BN,AZ,CJ];repeat' split
  all_goals omega
 rw[this];unfold Xd;dsimp only;split<;>simp_all
def d98:HK:=λa own=>match a,own with
 | [x],[]=>(KD x).map λq=>⟨q.1,.osl 0,[.row CC 4 q.2.length (AA.row (NY q.2)) none],[]⟩
 |_,_=>none
def FHSo28:FamH:=⟨List Stk,λL=>[Eo L],λ_=>[],λL=>FH L,λ_=>.osl 0,λL=>[.row CC 4 L.length (AA.row (NY L)) none],[]⟩
def soSt(L M:List Stk)(a:List Entry):List Entry×List Blk:=(a++[⟨3,none,.osl 0⟩],[.row CC 4 L.length (AA.row M) none])
def ISo28(L:List Stk):Nat->Option Inv
 |3=>some {β:=Nat×List Stk,ok:=λ(i,M)=>1<=i/\i<=L.length+1/\Sub M L/\KF AA.d AW 0 (L.length-i) i M=NY L,st:=λ(i,M)=>⟨(soSt L M [⟨4,none,.int .i64 i⟩]).1,(soSt L M []).2⟩,μ:=λ(i,_)=>L.length-i,sub:=λ(i,_)=>some fun
  |6=>some {β:=Nat×List Stk,ok:=λ(j,M)=>j<=i/\i<L.length/\Sub M L/\KF AA.d AW 0 (L.length-(i+1)) (i+1) (GH AA.d AW 0 j M)=NY L,st:=λ(j,M)=>⟨(soSt L M [⟨5,none,.int .i64 j⟩,⟨4,none,.int .i64 i⟩]).1,(soSt L M []).2⟩,μ:=λ(j,_)=>j}
  |_=>none}
 |_=>none
theorem pHSo28:HS 86 d98:=by
 refine HB {l:=[(126,d77)]} ⟨by simpa using pAf28,Dm,Dm⟩ FHSo28 ISo28 d98 ?_ ?_ ?_ Tryz.func86 Dk Dk Dk ?_
 .intro args own r h b;unfold d98 at h;split at h
  .simp only[In]at h;obtain⟨⟨q,L⟩,hx,rfl⟩:=h;obtain⟨t,u⟩:=Oe hx b;exact⟨L,⟨t,Im⟩,rfl,Im,u,rfl,rfl,rfl⟩
  .cases h
 .exact Bu
 .exact C6
 .intro(L:List Stk) μ b;replace b:FH L:=b;have hL:=b.1;refine X0a _ ?_;(repeat' first|constructor|intro h)<;>refine Lm ?_
  all_goals(try simp only[]at*)
  all_goals(try first
   |exact B4)
  all_goals(try(refine⟨Dj,?_⟩;exact LC Dk Dj))
  refine⟨(1,L),⟨Ir _,by show 1<=L.length+1;omega,Sub.refl L,rfl⟩,?_,?_⟩
  .exact X2
  .rintro⟨i,M⟩ ⟨i1,i2,g,i4⟩;refine X0a _ ?_;(repeat' first|constructor|intro h)<;>refine Lm ?_
   all_goals(try simp only[Hv]at*)
   all_goals(try first
    |exact B4)
   .have v:i<L.length:=Dj;refine⟨(i,M),⟨Ir _,v,g,?_⟩,?_,?_⟩
    .exact Dh
    .exact X1h
    .rintro⟨j,K⟩ ⟨j1,w,c,k⟩;have hK:=c.1;have m:((j:Int)-1).toNat=j-1:=Dj;have n:=af_lt (K.getD (j-1) AA.d) (K.getD j AA.d);by_cases f:0<j/\AW (K.getD j AA.d) (K.getD (j-1) AA.d)=true
     .obtain⟨x,o⟩:=f;have y:=n.2 o;refine X0a _ ?_;(repeat' first|constructor|intro h)<;>refine Lm ?_
      all_goals(try simp only[Hv,I1,m]at*)
      all_goals(try first
       |omega
       |exact Bs
       |(exfalso;rcases h with h|h;omega;exact h y)
       |exact Af
       |(show j<L.length;omega)
       |(show j-1<L.length;omega))
      have hs:=Pn (d:=AA.d) (l:=K) (i:=j-1) (j:=j) Dj Dj;have s:EI AA.d K (j-1) j=EI AA.d K j (j-1):=by unfold EI;exact List.set_comm _ _ Dj
      all_goals
       refine⟨(j-1,EI AA.d K (j-1) j),⟨by show j-1<=i;omega,w,hs.trans c,?_⟩,by show j-1<j;omega,?_⟩
       .rw[<-k,c07 x o,s]
       .refine X0a _ ?_;(repeat' first|constructor|intro h)<;>refine Lm ?_
        all_goals first
         |exact B9
         |exact Bh
         |(intro q _;left;rw[s];exact d21 Dj Dj)
         |skip
     .refine X0a _ ?_;(repeat' first|constructor|intro h)<;>refine Lm ?_
      all_goals(try simp only[Hv,I1,m]at*)
      all_goals(try first
       |omega
       |(exfalso;exact f ⟨Dj,n.1 h.2⟩)
       |exact Af)
      have e:GH AA.d AW 0 j K=K:=b6h f;all_goals
       refine⟨(i+1,K),⟨by show 1<=i+1;omega,by show i+1<=L.length+1;omega,c,by rw[<-k,e]⟩,G8,?_⟩;all_goals exact X2
   all_goals
    have e:KF AA.d AW 0 (L.length-i) i M=M:=by rw[show L.length-i=0 from Dj];rfl
    have z:NY L=M:=by rw[<-i4,e]
    rw[z];first|exact g.1.symm|exact A5|rfl|skip
theorem d9f(L:List Stk):(NY L).length=L.length:=(c04 L).length_eq
abbrev UA:TypeId:=65
theorem d0eq:DD.d=d0:=rfl
theorem ov_cr(b:Bool)(L:List Cr)(i:Nat)(x y:Cr):over (DH b (DD.sv x) (DD.row L i)) 0 (DD.sv y)=DD.sv y:=by cases b<;>rfl
theorem ov_cr0(L:List Cr)(i:Nat)(y:Cr):over (DD.row L i) 0 (DD.sv y)=DD.sv y:=rfl
theorem f0j{L:List Cr}{i j q:Nat}(hi:i<L.length)(c:j<L.length):
 DH (decide (q=j)) (over (DH (decide (j=i)) (over (DD.row L i) 0 (DD.sv (L.getD j DD.d))) (DD.row L j)) 0 (DD.sv (L.getD i DD.d))) (DH (decide (q=i)) (over (DD.row L i) 0 (DD.sv (L.getD j DD.d))) (DD.row L q))=DD.row (EI DD.d L i j) q:=by
 rw[ov_cr0,ov_cr];have e:DD.row (EI DD.d L i j) q=DD.sv ((EI DD.d L i j).getD q DD.d):=rfl;rw[e,XS hi c];by_cases b:q=j
 .rw[Ih b,J7 b];by_cases a:q=i
  .rw[J7 a];rfl
  .rw[J9 a];rfl
 .rw[Ii b,J9 b];by_cases a:q=i
  .rw[Ih a,J7 a];rfl
  .rw[Ii a,J9 a];rfl
theorem d8s{j:Nat}{M:List Cr}(b:0<j)(a:JU (M.getD j d0) (M.getD (j-1) d0)=true):GH d0 JU 0 j M=GH d0 JU 0 (j-1) (EI d0 M j (j-1)):=by
 obtain⟨k,rfl⟩:∃k,j=k+1:=⟨j-1,Dj⟩
 simp only[Mk]at a⊢;rw[GH,Ih ⟨b,a⟩]
theorem d3w{j:Nat}{M:List Cr}(h:¬(0<j/\JU (M.getD j d0) (M.getD (j-1) d0)=true)):GH d0 JU 0 j M=M:=by
 cases j with
 |zero=>rfl
 |succ k=>
  simp only[Mk]at h;rw[GH,Ii h]
theorem d5h(x y:Cr):JU y x=true↔(y.c<x.c\/(x.c=y.c/\y.e<x.e)):=by
 unfold JU;rw[Jn,Jc,Is,Is,Is];constructor
 .rintro(h|⟨a,b⟩)
  .exact .inl h
  .exact .inr ⟨a.symm,b⟩
 .rintro(h|⟨a,b⟩)
  .exact .inl h
  .exact .inr ⟨a.symm,b⟩
def d6t:HK:=λa own=>match a,own with
 | [.osl 0],[.row T 3 n g _]=>if T=UA then some ⟨DD.isL n g/\n<=1000000,.osl 0,[.row UA 3 (DD.lst n g).length (DD.row (NQ (DD.lst n g))) none],[]⟩else none
 |_,_=>none
def FOr28:FamH:=⟨List Cr,λ_=>[.osl 0],λl=>[.row UA 3 l.length (DD.row l) none],λl=>l.length<=1000000,λ_=>.osl 0,λl=>[.row UA 3 l.length (DD.row (NQ l)) none],[]⟩
def IOr28(L:List Cr):Nat->Option Inv
 |2=>some {β:=Nat×List Cr,ok:=λ(i,M)=>1<=i/\i<=L.length+1/\Sub M L/\KF d0 JU 0 (L.length-i) i M=NQ L,st:=λ(i,M)=>⟨[⟨3,none,.int .i64 i⟩,⟨0,none,.osl 0⟩],[.row UA 3 L.length (DD.row M) none]⟩,μ:=λ(i,_)=>L.length-i,sub:=λ(i,_)=>some fun
  |5=>some {β:=Nat×List Cr,ok:=λ(j,M)=>j<=i/\i<L.length/\Sub M L/\KF d0 JU 0 (L.length-(i+1)) (i+1) (GH d0 JU 0 j M)=NQ L,st:=λ(j,M)=>⟨[⟨4,none,.int .i64 j⟩,⟨3,none,.int .i64 i⟩,⟨0,none,.osl 0⟩],[.row UA 3 L.length (DD.row M) none]⟩,μ:=λ(j,_)=>j}
  |_=>none}
 |_=>none
theorem pOr28:HS 87 d6t:=by
 refine HB {} ⟨Dm,Dm,Dm⟩ FOr28 IOr28 d6t ?_ ?_ ?_ Tryz.func87 Dk Dk Dk ?_
 .intro args own r h b;unfold d6t at h;split at h
  .rename_i T n g c;split at h
   .rename_i w;subst w;cases h;exact⟨DD.lst n g,⟨Dt,Im⟩,rfl,⟨⟨Ea,(RT.lst_length DD n g).symm,Im,RT.row_isL DD b.1⟩,Im⟩,by simp only[FOr28,RT.lst_length];exact b.2,rfl,rfl,rfl⟩
   .cases h
  .cases h
 .exact Bu
 .exact Bz
 .intro(L:List Cr) μ b;replace b:L.length<=1000000:=b;refine X0a _ ?_;(repeat' first|constructor|intro h)<;>refine Lm ?_
  all_goals(try(simp only[];omega))
  refine⟨(1,L),⟨Ir _,by show 1<=L.length+1;omega,Sub.refl L,rfl⟩,?_,?_⟩
  .exact X2
  .rintro⟨i,M⟩ ⟨i1,i2,m,i4⟩;refine X0a _ ?_;(repeat' first|constructor|intro h)<;>refine Lm ?_
   all_goals(try simp only[Hv]at*)
   all_goals(try first
    |exact B4)
   .have x:i<L.length:=Dj;refine⟨(i,M),⟨Ir _,x,m,?_⟩,?_,?_⟩
    .exact Dh
    .exact X1h
    .rintro⟨j,K⟩ ⟨j1,y,f,o⟩;have hK:=f.1;have s:((j:Int)-1).toNat=j-1:=Dj;have t:=d5h (K.getD (j-1) d0) (K.getD j d0);by_cases k:0<j/\JU (K.getD j d0) (K.getD (j-1) d0)=true
     .obtain⟨z,u⟩:=k;have A:=t.1 u;refine X0a _ ?_;(repeat' first|constructor|intro h)<;>refine Lm ?_
      all_goals(try simp only[Hv,I1,I7,s,d0eq]at*)
      all_goals(try first
       |omega
       |exact Bs
       |(exfalso;rcases h with h|h;omega;exact h A)
       |exact Af
       |(show j<L.length;omega)
       |(show j-1<L.length;omega))
      have hs:=Pn (d:=d0) (l:=K) (i:=j-1) (j:=j) Dj Dj;have v:EI d0 K (j-1) j=EI d0 K j (j-1):=by unfold EI;exact List.set_comm _ _ Dj
      all_goals
       refine⟨(j-1,EI d0 K (j-1) j),⟨by show j-1<=i;omega,y,hs.trans f,?_⟩,by show j-1<j;omega,?_⟩
       .rw[<-o,d8s z u,v]
       .refine X0a _ ?_;(repeat' first|constructor|intro h)<;>refine Lm ?_
        all_goals first
         |exact B9
         |(intro q _;left;exact f0j Dj Dj)
         |(intro q _;left;rw[v];exact f0j Dj Dj)
         |skip
     .refine X0a _ ?_;(repeat' first|constructor|intro h)<;>refine Lm ?_
      all_goals(try simp only[Hv,I1,I7,s,d0eq]at*)
      all_goals(try first
       |omega
       |(exfalso;exact k ⟨Dj,t.2 h.2⟩)
       |exact Af)
      have e:GH d0 JU 0 j K=K:=d3w k;all_goals
       refine⟨(i+1,K),⟨by show 1<=i+1;omega,by show i+1<=L.length+1;omega,f,by rw[<-o,e]⟩,G8,?_⟩;all_goals exact X2
   all_goals
    have e:KF d0 JU 0 (L.length-i) i M=M:=by rw[show L.length-i=0 from Dj];rfl
    have B:NQ L=M:=by rw[<-i4,e]
    rw[B];first|exact m.1.symm|exact A5|rfl|skip
def c5w(p:Pt)(P:Int->Mv)(K C:Int):Prop:=∃a e,CX p a e/\Al p a e=0/\JD p P K C a e
section
variable{p:Pt}{r:Mv}{L:List Stk}{P:Int->Mv}{B K C sd:Int}
theorem ci_K{c:Cl}{e:Int}(a:CP c)(b:0<=e/\e<3):1<=CM c.q e/\CM c.q e<=4:=by obtain⟨X,Y,Q⟩:=c;rcases EJ a with h|h|h|h<;>rcases GN b with rfl|rfl|rfl<;>(simp only at h;subst h;simp[CM,HU,tb])
theorem ref_bd{c d:Cl}{e:Int}(a:CP c)(b:0<=e/\e<3)(f:(-B<=c.x/\c.x<=B)/\ -B<=c.y/\c.y<=B)(g:(-B<=d.x/\d.x<=B)/\ -B<=d.y/\d.y<=B):(-(3*B+2)<=(BK (BC (CM c.q e) (CY c.x c.y c.q e)) d).x/\(BK (BC (CM c.q e) (CY c.x c.y c.q e)) d).x<=3*B+2)/\ -(3*B+2)<=(BK (BC (CM c.q e) (CY c.x c.y c.q e)) d).y/\(BK (BC (CM c.q e) (CY c.x c.y c.q e)) d).y<=3*B+2:=by obtain⟨X,Y,Q⟩:=c;obtain⟨Z,W,R⟩:=d;rcases EJ a with h|h|h|h<;>rcases GN b with rfl|rfl|rfl<;>(simp only at h f g;subst h;simp[BC,GS,CM,CY,HU,JL,BK,sq,tb];omega)
theorem f62{over:Bool}(d:1<=K/\K<=4)(a:sd=0\/sd=1)(f:CZ L)(g:∀s∈L,CP s.c)(i:∀s∈L,s.l≠[]):AX (JN over K C sd L)=DX (AX L) K C sd over:=by
 obtain⟨j,h2,k,h4⟩:=@f1f over K C sd L d a f g i;funext c;by_cases b:CP c
 .exact j c b
 .have m:DX (AX L) K C sd over c=[]:=by unfold DX;rw[if_neg (λh=>b h.1)]
  rw[m];rcases Qs (JN over K C sd L) c with⟨s,hs,e⟩|h
  .exact absurd (e▸(k s hs).2) b
  .exact h
theorem StG.fold(X:StG p r L P B)(j:∀c∈p.l,AD .u8 c.e)(u:c5w p P K C)(b:sd=0\/sd=1)(over:Bool):(1<=K/\K<=4)/\StG (FA p P K C over) (EU p P K C sd 0) (JN over K C sd L) (EU p P K C sd) (3*B+2):=by
 have hs:=X.hs;obtain⟨a,e,d,ka,v⟩:=u;have k:=MQ hs X.G d.1;have m:=TK (t:=(P a).t) d.2.1;obtain⟨n,w⟩:=(c5z hs X.G d.1 d.2.1).1 v;have f:1<=K/\K<=4:=by rw[<-n];exact ci_K k m
 obtain⟨o,gc⟩:=d4s (K:=K) (C:=C) (over:=over) X.hp j X.G;have D:FdG p (FA p P K C over) P (AX L) K C sd (λi _=>FdG.nkG P over i):=⟨hs,X.hp,X.G,X.S,f,b,fd_K X.hp j X.G⟩
 obtain⟨f1,f2,x,y⟩:=@f1f over K C sd L f b X.cells (λs h=>X.cQ h) X.ne;have g:=@f62 L K C sd over f b X.cells (λs h=>X.cQ h) X.ne;refine⟨f,o,D.G',rfl,λi z=> ?_,y,λs h=>(x s h).1,?_,?_,?_⟩
 .have q:AU p i:=z;have A:=X.bd a d.1;have E:=X.bd i q;have:=ref_bd (B:=B) k m A E;rw[n,w]at this;have F:=UP (p':=FA p P K C over) (K:=K) (C:=C) (sd:=sd) hs X.G q rfl rfl;rw[F];split
  .exact this
  .omega
 .rw[g];exact D.S' over
 .rw[g];exact D.nc o X.N over
 .rw[g];exact D.kinds over (λi e _ _=>rfl) X.D
end
def BE(W H:Int):List Stk:=(List.range (AG W H)).map λi:Nat=>⟨AH W H (i:Int),[(i:Int)]⟩
theorem f87{W H:Int}(hs:AM W H=0){i j:Int}(d:0<=i)(h:i<j)(e:j<4*W*H):AZ (BN (AH W H i)) (BN (AH W H j))<0:=by
 have hw:=HE hs;rw[IK hs d Dj,IK hs Dj e];simp only[BN,AZ,CJ];have c:=Lj (i/4) W;have e2:=Lj (j/4) W;have m1:=M0 (i/4) (b:=W) Dj;have m2:=M0 (j/4) (b:=W) Dj;have n1:=M7 (i/4) (b:=W) Dj;have n2:=M7 (j/4) (b:=W) Dj;have f:i/4<=j/4:=Dj;have hy:i/4/W<=j/4/W:=Int.ediv_le_ediv Dj f;by_cases q:i/4/W=j/4/W
 .rw[Ih q];have hx:i/4%W<=j/4%W:=by
   rw[q]at c;omega
  by_cases a:i/4%W=j/4%W
  .rw[Ih a];have:i/4=j/4:=by
    rw[q,a]at c;omega
   have:i%4<j%4:=Dj;rw[Ii Dj,Ih this];decide
  .rw[Ii a,Ih Dj];decide
 .rw[Ii q,Ih Dj];decide
theorem f0r{c:Cl}(a:CP c):BK Bl c=c:=by obtain⟨x,y,q⟩:=c;rcases EJ a with h|h|h|h<;>(simp only at h;subst h;simp[BK,Bl,sq,tq,tb])
theorem f0d{W H B:Int}(hs:AM W H=0)(hB:W<=B+1/\H<=B+1):StG ⟨W,H,[]⟩ Bl (BE W H) (λ_=>Bl) B:=by
 have hN:=DB hs;have z:BF ⟨W,H,[]⟩=0:=by unfold BF;rw[Ih (show AM W H=0 from hs)];simp
 have J:∀i e,AQ W H i e=0->Al ⟨W,H,[]⟩ i e=0:=λi e t=>c32 (p:=⟨W,H,[]⟩) z t rfl;have u:∀i,AU ⟨W,H,[]⟩ i->AV ⟨W,H,[]⟩ (λ_=>Bl) i=AH W H i:=λi f=>f0r (LN (p:=⟨W,H,[]⟩) hs f);have A:∀i:Nat,i<AG W H->(BE W H).getD i AA.d=⟨AH W H i,[(i:Int)]⟩:=λi f=>by unfold BE;simp[f]
 have K:(BE W H).length=AG W H:=by unfold BE;simp
 have lt:∀i j,i<j->j<(BE W H).length->AZ (BN ((BE W H).getD i AA.d).c) (BN ((BE W H).getD j AA.d).c)<0:=λi j g o=>by rw[K]at o;rw[A i Dj,A j o];exact f87 hs Dj Dj Dj
 have w:=c6z lt;have mm:∀s∈BE W H,∃i:Nat,i<AG W H/\s=⟨AH W H i,[(i:Int)]⟩:=λs hs'=>by unfold BE at hs';obtain⟨i,f,rfl⟩:=J4.1 hs';exact⟨i,Jk.1 f,rfl⟩
 have one:∀c,(AX (BE W H) c).length<=1:=λc=>by
  rcases Qs (BE W H) c with⟨s,g,rfl⟩|h
  .rw[PC w g];obtain⟨i,_,rfl⟩:=mm s g;exact Bw
  .rw[h];exact Ix _
 have n:∀c x y,¬CN (AX (BE W H) c) x y:=λc x y h=>by have:=h.length_le;have:=one c;simp at*;omega
 refine⟨z,⟨λi f=>⟨by unfold FL Bl;simp,by unfold PA Bl;simp⟩,λi e f he t=>by rw[if_pos (J i e t)]⟩,rfl,λi f=> ?_,lt,λs hs'=> ?_,⟨λc=> ?_,λc v=> ?_⟩,⟨λi e j k f hj L kj C r=>absurd r (n _ _ _),λi e a k f E L F C g o=>absurd g (n _ _ _),λa k b m E r F kb C g o h3=>absurd g (n _ _ _)⟩,λa k E F r=>absurd r (n _ _ _)⟩
 .rw[u i f];have G:=IH hs f.1 f.2;have pi:(0<=(AH W H i).x/\(AH W H i).x<W)/\(0<=(AH W H i).y/\(AH W H i).y<H):=⟨G.1,G.2.1⟩
  omega
 .obtain⟨i,_,rfl⟩:=mm s hs';simp
 .have:=one c;match hl:AX (BE W H) c with
  | []=>exact Mf
  | [x]=>simp
  |x::y::l=>rw[hl]at this;simp at this
 .constructor
  .intro q;rcases Qs (BE W H) c with⟨s,g,rfl⟩|h
   .rw[PC w g]at q;obtain⟨i,f,rfl⟩:=mm s g;simp only[J6]at q;subst q;have I:AU ⟨W,H,[]⟩ (i:Int):=⟨Dj,by show (i:Int)<4*W*H;omega⟩
    exact⟨I,u _ I⟩
   .rw[h]at q;simp at q
  .rintro⟨g,o⟩;rw[u v g]at o;have j5:0<=v/\v<4*W*H:=g;have M:(⟨AH W H v,[v]⟩:Stk)∈BE W H:=by
    unfold BE;refine J4.2 ⟨v.toNat,Jk.2 Dj,?_⟩;rw[show ((v.toNat:Nat):Int)=v from Dj]
   have:=PC w M;rw[<-o];rw[this];simp
def rFl28(W H:Int):SV:=.agg (EF ⟨W,H,[]⟩ Bl (BE W H))
def kFl28:AK
 | [.int .i64 W,.int .i64 H]=>some (AM W H=0,rFl28 W H)
 |_=>none
def f4t:HK:=λa own=>match a,own with
 | [.int .i64 W,.int .i64 H],[]=>some ⟨AM W H=0,.agg [.int .i64 W,.int .i64 H,.con (.slice none 0 0),.int .u8 0,.int .i64 0,.int .i64 0,.osl 0],[.row CC 4 (BE W H).length (AA.row (BE W H)) none],[]⟩
 |_,_=>none
def FFl28:FamH:=⟨Int×Int,λ(W,H)=>[.int .i64 W,.int .i64 H],λ_=>[],λ(W,H)=>AM W H=0,λ(W,H)=>.agg [.int .i64 W,.int .i64 H,.con (.slice none 0 0),.int .u8 0,.int .i64 0,.int .i64 0,.osl 0],λ(W,H)=>[.row CC 4 (BE W H).length (AA.row (BE W H)) none],[]⟩
def IFl28:Int×Int->Nat->Option Inv
 |(W,H),3=>some {β:=Nat,ok:=λi=>i<=AG W H,st:=λi=>⟨[⟨6,none,.int .i64 i⟩,⟨5,none,.own 1 0⟩,⟨4,none,.own 0 0⟩,⟨1,none,.int .i64 H⟩,⟨0,none,.int .i64 W⟩],[.cells 31 [.int .i64 0,.int .i64 0,.con (.slice none 0 0),.int .u8 0,.int .i64 0,.int .i64 0,.con (.slice none 0 0)],.cells 31 [.int .i64 W,.int .i64 H,.con (.slice none 0 0),.int .u8 0,.int .i64 0,.int .i64 0,.osl 2],.row 49 4 ((BE W H).take i).length (AA.row ((BE W H).take i)) none]⟩,μ:=λi=>AG W H-i,nl:=[.cell 1 6 49 4]}
 |_,_=>none
theorem d3g{L:List Stk}{x y q:Int}{l:List Int}{n:Nat}{f:Nat->List SV}{c:Option Nat}{sz:Nat}(a:sz=1)(b:n=l.length)(d:∀j,j<n->f j=AC.row l j){j:Nat}(hj:j<L.length+1):HC (if j<L.length then AA.row L j else(List.map (λx:Nat×List SV=>x.snd) [(0,[.int .i64 x,.int .i64 y,.int .u8 q,.sl sz n f c])].reverse).getD (j-L.length) []) (AA.row (L++[⟨⟨x,y,q⟩,l⟩]) j):=by
 subst a;by_cases e:j<L.length
 .left;rw[Ih e];unfold RT.row;rw[If,If,It e]
 .right;have:j=L.length:=Dj;subst this;rw[Ii e,Ka];unfold RT.row;rw[If (l:=L++_),Iz (Ir _),Ka];exact⟨rfl,rfl,rfl,⟨b,Ef,G9,d⟩,Im⟩
theorem d8c{W H:Int}(hs:AM W H=0){i:Nat}(hi:(i:Int)<4*W*H):(BE W H).take (i+1)=(BE W H).take i++[⟨⟨(i:Int)/4%W,(i:Int)/4/W,(i:Int)%4⟩,[(i:Int)]⟩]:=by have hN:=DB hs;rw[II (d:=AA.d) (by unfold BE;simp;omega)];congr 2;unfold BE;rw[If,Jb,Mi Dj];show (⟨AH W H i,[(i:Int)]⟩:Stk)=_;rw[IK hs Dj hi]
theorem pHFl28:HS 14 f4t:=by
 refine HB {l:=[(37,RN)],fz:=λd=>Nat.beq d 28,G:={gx:=λ_=>[.sel [2,0]]}} ⟨by simpa using VV,Dm,Dm⟩ FFl28 IFl28 f4t ?_ ?_ ?_ Tryz.func14 Dk Dk Dk ?_
 .intro args own s h a;unfold f4t at h;split at h
  .rename_i W H;cases h;exact⟨(W,H),by simp[FFl28,BG,SV.le2,SV.le1,SV.le0],rfl,Im,a,rfl,rfl,rfl⟩
  .cases h
 .exact Bt
 .exact C6
 .rintro⟨W,H⟩ μ a;replace a:AM W H=0:=a;have hN:=DB a;have hw:=HE a;refine X0a _ ?_;(repeat' first|constructor|intro h)<;>refine Lm ?_
  all_goals(try first
   |exact Ap)
  have Zt:(BE W H).length=AG W H:=by unfold BE;simp
  have X1:4*W*H=4*(W*H):=Kz 4 W H;refine⟨(0:Nat),Ix _,?_,?_⟩
  .refine X0a _ ?_;(repeat' first|constructor|intro h)<;>refine Lm ?_
   all_goals first|exact A8|exact Ai|skip
  .intro i c;replace c:i<=AG W H:=c;have bj:((BE W H).take i).length<=AG W H:=Fj;refine X0a _ ?_;(repeat' first|constructor|intro h)<;>refine Lm ?_
   all_goals(try simp only[Hv]at*)
   all_goals(try first
    |omega
    |exact Ax
    |exact A4
    |exact Aa)
   .refine⟨i+1,by show i+1<=AG W H;omega,by show AG W H-(i+1)<AG W H-i;omega,?_⟩;have e:=d8c a h;rw[e,Jm,Mb];refine X0a _ ?_;(repeat' first|constructor|intro h)<;>refine Lm ?_
    all_goals first
     |exact Ak
     |(intro q f;refine d3g (l:=[(i:Int)]) Dk rfl (λj hj=> ?_) f;have e:j=0:=Nat.lt_one_iff.1 hj;rw[e];rfl)
   all_goals
    have e:(BE W H).take i=BE W H:=Kh Dj;rw[e];first|exact Ak|skip
theorem pFl28:PS 14 kFl28:=ps_le (d8m pHFl28) λargs pre s h a=>by
 unfold kFl28 at h;split at h
 .rename_i W H;cases h;exact⟨_,_,rfl,a,by simp[rFl28,EF,Eo,Bl,SV.le2,SV.le1,BJ,SV.le0,HW,HC]⟩
 .cases h
def NW(y x:Int×Int):Bool:=decide (y.1<x.1)||(decide (y.1=x.1)&&decide (y.2<x.2))
def LF(x:Int×Int):List (Int×Int)->List (Int×Int)
 | []=>[x]
 |y::r=>if NW y x=true then y::LF x r else if y=x then y::r else x::y::r
def Og(q:Pas):Int×Int:=(q.K,q.C)
def linL(ps:List Pas):List (Int×Int):=ps.foldl (λl q=>LF (Og q) l) []
theorem c7b{y x:Int×Int}:NW y x=true↔y.1<x.1\/y.1=x.1/\y.2<x.2:=by unfold NW;rw[Jn,Jc,Is,Is,Is]
theorem c7w{x y z:Int×Int}(h1:NW x y=true)(h2:NW y z=true):NW x z=true:=by rw[c7b]at*;omega
theorem d8z{x y:Int×Int}(h1:¬NW y x=true)(a:y≠x):NW x y=true:=by rw[c7b]at*;have:¬(y.1=x.1/\y.2=x.2):=λh=>a (Prod.ext h.1 h.2);omega
theorem b4y{x y:Int×Int}:∀(l:List (Int×Int)),y∈LF x l↔y∈l\/y=x
 | []=>by simp[LF]
 |z::l=>by
  rw[LF];split
  .rw[Iv,b4y l,Iv,or_assoc]
  .split
   .rename_i h;subst h;simp only[Iv];constructor
    .exact λh=>.inl h
    .rintro(h|h)
     .exact h
     .exact .inl h
   .simp only[Iv];constructor
    .rintro(h|h)
     .exact .inr h
     .exact .inl h
    .rintro(h|h)
     .exact .inr h
     .exact .inl h
theorem c1j{x:Int×Int}:∀(l:List (Int×Int)),(LF x l).length<=l.length+1
 | []=>by simp[LF]
 |z::l=>by
  have:=@c1j x l;rw[LF];split
  .simp only[Jy];omega
  .split<;>simp
theorem c0q{x:Int×Int}:∀(l:List (Int×Int)),l.Pairwise (λa b=>NW a b=true)->(LF x l).Pairwise λa b=>NW a b=true
 | [],_=>by simp[LF]
 |z::l,h=>by
  rw[K0]at h;rw[LF];split
  .rename_i d;rw[K0];refine⟨λa c=> ?_,c0q l h.2⟩;rcases(b4y l).1 c with c|rfl
   .exact h.1 a c
   .exact d
  .rename_i d;split
   .rw[K0];exact h
   .rename_i e;have hx:=d8z d e;rw[K0,K0];refine⟨λa c=> ?_,h⟩;rcases Iv.1 c with rfl|c
    .exact hx
    .exact c7w hx (h.1 a c)
theorem lin_go(ps:List Pas):∀(l:List (Int×Int)),l.Pairwise (λa b=>NW a b=true)->(ps.foldl (λl q=>LF (Og q) l) l).Pairwise (λa b=>NW a b=true)/\(∀y,y∈ps.foldl (λl q=>LF (Og q) l) l↔y∈l\/∃q∈ps,Og q=y)/\(ps.foldl (λl q=>LF (Og q) l) l).length<=l.length+ps.length:=by
 induction ps with
 |nil=>intro l h;exact⟨h,λy=>Dm,Dm⟩
 |cons q ps c=>
  intro l h;obtain⟨d,e,h3⟩:=c (LF (Og q) l) (c0q l h);refine⟨d,λy=> ?_,?_⟩
  .rw[Lb,e,b4y];simp only[Iv,exists_eq_or_imp];rw[or_assoc];constructor
   .rintro(h|h|h)
    .exact .inl h
    .exact .inr (.inl h.symm)
    .exact .inr (.inr h)
   .rintro(h|h|h)
    .exact .inl h
    .exact .inr (.inl h.symm)
    .exact .inr (.inr h)
  .have:=@c1j (Og q) l;rw[Lb,Jy];omega
theorem f2y{ps:List Pas}{y:Int×Int}:y∈linL ps↔∃q∈ps,Og q=y:=by have:=(lin_go ps [] .nil).2.1 y;simp only[List.not_mem_nil,false_or]at this;exact this
theorem lin_on{p:Pt}{P:Int->Mv}{y:Int×Int}(g:BF p=0)(G:PlcG p P):y∈linL (GP p P (3*AG p.W p.H))↔c5w p P y.1 y.2:=by
 have hs:=(FQ g).1;rw[f2y];constructor
 .rintro⟨q,j,rfl⟩;obtain⟨a,e,c,d,h,rfl⟩:=(XA g G).1 j;exact⟨a,e,c,d,rfl⟩
 .rintro⟨a,e,c,d,h⟩;have f:∀b,CX p b e->Al p b e=0->b<Ao p b e->JD p P y.1 y.2 b e->∃q∈GP p P (3*AG p.W p.H),Og q=y:=λb k l m n=>by
   refine⟨_,(XA g G).2 ⟨b,e,k,l,m,rfl⟩,?_⟩;have i:GA (CV (AV p P b)) (CV (BX p P b e))=(y.1,y.2):=n;unfold Og;simp only;rw[i]
  by_cases o:a<Ao p a e
  .exact f a c d o h
  .obtain⟨r,s⟩:=Pm hs c;have nq:Ao p a e≠a:=λq=>by
    have:=(KH hs c.1 c.2.1 c.2.2).2.1;have t:AF p.W p.H a e=a:=q;rw[t]at this;exact WY (LN hs c.1) c.2.1 this.symm
   exact f _ r (by rw[Ps hs g c];exact d) (by rw[s];omega) ((d1v hs G c d).2 h)
abbrev IM(p:Pt)(r:Mv):List Pas:=GP p (AO p r) (3*AG p.W p.H)
section
variable{L:List Stk}{K C sd:Int}{i:Nat}
theorem f30(h:i<L.length)(hs:CU K C (L.getD i AA.d).c≠sd):DM K C sd (L.take (i+1))=DM K C sd (L.take i)++[L.getD i AA.d]/\CW K C sd (L.take (i+1))=CW K C sd (L.take i):=by rw[II (d:=AA.d) h];unfold DM CW;rw[M6,M6];generalize L.getD i AA.d=x at*;simp[hs]
theorem f6g(h:i<L.length)(hs:CU K C (L.getD i AA.d).c=sd):DM K C sd (L.take (i+1))=DM K C sd (L.take i)/\CW K C sd (L.take (i+1))=CW K C sd (L.take i)++[⟨BK (BC K C) (L.getD i AA.d).c,(L.getD i AA.d).l.reverse⟩]:=by rw[II (d:=AA.d) h];unfold DM CW;rw[M6,M6];generalize L.getD i AA.d=x at*;simp[hs]
theorem d6e:(DM K C sd (L.take i)).length<=L.length:=by unfold DM;refine Ke (Ma _ _) ?_;rw[List.length_take];omega
theorem d5u:(CW K C sd (L.take i)).length<=L.length:=by unfold CW;rw[Jp];refine Ke (Ma _ _) ?_;rw[List.length_take];omega
def IQ(K C sd:Int)(L:List Stk):Bool:=L.any λs=>decide (CU K C s.c=sd)&&s.l.contains 0
def VY(z:Bool)(r m:Mv):Mv:=⟨if z=true then(DK r m).t else r.t,if z=true then(DK r m).x else r.x,if z=true then(DK r m).y else r.y⟩
theorem rt_eq(z:Bool)(r m:Mv):VY z r m=if z=true then DK r m else r:=by cases z<;>rfl
theorem z_stay(h:i<L.length)(hs:CU K C (L.getD i AA.d).c≠sd):IQ K C sd (L.take (i+1))=IQ K C sd (L.take i):=by rw[II (d:=AA.d) h];unfold IQ;rw[List.any_append];generalize L.getD i AA.d=x at*;simp[hs]
theorem z_away(h:i<L.length)(hs:CU K C (L.getD i AA.d).c=sd):IQ K C sd (L.take (i+1))=(IQ K C sd (L.take i)||((L.getD i AA.d).l.reverse.take (L.getD i AA.d).l.length).contains 0):=by rw[II (d:=AA.d) h];unfold IQ;rw[List.any_append];generalize L.getD i AA.d=x at*;have e:x.l.reverse.take x.l.length=x.l.reverse:=Kh Dm;rw[e];simp[hs]
theorem f3v{l:List Int}{j:Nat}(h:j<l.length):l.reverse.getD j 0=l.getD (l.length-1-j) 0:=by rw[If,If,List.getElem?_reverse h]
theorem d7k{l:List Int}{j:Nat}(h:j<l.length):(l.take (j+1)).contains 0=((l.take j).contains 0||decide (l.getD j 0=0)):=by rw[II (d:=0) h,List.contains_append];congr 1;rw[List.contains_cons,List.contains_nil,Lu];rw[Ku,Kx,Is];exact eq_comm
end
theorem c7s(_:Bool)(S:List Stk)(x:Stk):(∃k,k<S.length/\(∀j,j<k->(S.getD j AA.d).c≠x.c)/\(S.getD k AA.d).c=x.c)\/∀j,j<S.length->(S.getD j AA.d).c≠x.c:=by
 induction S with
 |nil=>exact .inr λj hj=>absurd hj (Ja _)
 |cons s S a=>
  by_cases h:s.c=x.c
  .exact .inl ⟨0,Dm,λj hj=>absurd hj (Ja _),h⟩
  .rcases a with⟨k,h1,b,e⟩|h1
   .refine .inl ⟨k+1,Ee,λj hj=> ?_,e⟩;cases j with
    |zero=>exact h
    |succ j=>exact b j Dj
   .refine .inr λj hj=> ?_;cases j with
    |zero=>exact h
    |succ j=>exact h1 j E8
theorem b46{over:Bool}{S A:List Stk}{i:Nat}(h:i<A.length):AR over S (A.take (i+1))=DZ over (AR over S (A.take i)) (A.getD i AA.d):=by unfold AR;rw[II (d:=AA.d) h,List.foldl_append];rfl
theorem c1p{over:Bool}{x:Stk}:∀(S:List Stk) (j:Nat),j<S.length->((DZ over S x).getD j AA.d).c=(S.getD j AA.d).c/\((S.getD j AA.d).c≠x.c->(DZ over S x).getD j AA.d=S.getD j AA.d)
 | [],j,h=>Dv
 |s::S,j,h=>by
  rw[DZ];split
  .rename_i e;cases j with
   |zero=>exact⟨rfl,λq=>absurd e q⟩
   |succ j=>exact⟨rfl,λ_=>rfl⟩
  .cases j with
   |zero=>exact⟨rfl,λ_=>rfl⟩
   |succ j=>exact c1p S j Dr
theorem b45{over:Bool}{x:Stk}:∀(S:List Stk),S.length<=(DZ over S x).length/\(DZ over S x).length<=S.length+1
 | []=>by simp[DZ]
 |s::S=>by
  have:=@b45 over x S;rw[DZ];split
  .simp
  .simp only[Jy];omega
theorem TZ{over:Bool}:∀(A S:List Stk),S.length<=(AR over S A).length/\(AR over S A).length<=S.length+A.length
 | [],S=>by show S.length<=S.length/\S.length<=S.length+0;omega
 |x::A,S=>by have h1:=@TZ over A (DZ over S x);have h2:=@b45 over x S;have e:AR over S (x::A)=AR over (DZ over S x) A:=rfl;rw[e,Jy];omega
theorem Vh{over:Bool}:∀(A S:List Stk) (j:Nat),j<S.length->((AR over S A).getD j AA.d).c=(S.getD j AA.d).c/\((S.getD j AA.d).c∉A.map (·.c)->(AR over S A).getD j AA.d=S.getD j AA.d)
 | [],S,j,h=>⟨rfl,λ_=>rfl⟩
 |x::A,S,j,h=>by have e:AR over S (x::A)=AR over (DZ over S x) A:=rfl;have h1:=(@b45 over x S).1;obtain⟨g1,a⟩:=@c1p over x S j h;obtain⟨f1,f2⟩:=@Vh over A (DZ over S x) j Dj;rw[e];refine⟨f1.trans g1,λq=> ?_⟩;rw[K1,Iv,not_or]at q;rw[f2 (by rw[g1];exact q.2),a q.1]
theorem c5f{over:Bool}:∀(A S:List Stk) (j:Nat),S.length<=j->j<(AR over S A).length->((AR over S A).getD j AA.d).c∈A.map (·.c)
 | [],S,j,g,a=>by have e:AR over S []=S:=rfl;rw[e]at a;omega
 |x::A,S,j,g,a=>by
  have e:AR over S (x::A)=AR over (DZ over S x) A:=rfl;rw[e]at a⊢;by_cases f:j<(DZ over S x).length
  .have hl:=(@b45 over x S).2;have b:j=S.length:=Dj;subst b;rw[(@Vh over A (DZ over S x) S.length f).1];rcases c7s over S x with⟨k,k1,k2,k3⟩|i
   .rw[b3j S k k1 k2 k3,K4]at f;omega
   .rw[Ws S i];simp[]
  .exact Je _ (c5f A _ j Dj a)
theorem d0x:∀(n:Nat) (l:List Int),l.Nodup->(∀x∈l,0<=x/\x<(n:Int))->l.length<=n
 |0,l,_,h=>by
  cases l with
  |nil=>simp
  |cons x l=>have:=h x Dm;omega
 |n+1,l,a,h=>by
  have b:=d0x n (l.erase (n:Int)) (a.sublist List.erase_sublist) (λx hx=>by
   have h1:=h x (List.mem_of_mem_erase hx);have h2:x≠(n:Int):=λe=>by subst e;exact a.not_mem_erase hx
   omega)
  rw[List.length_erase]at b;split at b<;>omega
namespace StG
variable{p:Pt}{r:Mv}{L:List Stk}{P:Int->Mv}{B:Int}
theorem flat_len(X:StG p r L P B):(CF L).length<=AG p.W p.H:=by have hN:=DB X.hs;refine d0x _ _ X.flat_nd λx hx=> ?_;have h:=(X.flat_mem x).1 hx;unfold AU at h;omega
theorem lay_len(X:StG p r L P B){s:Stk}(hs:s∈L):s.l.length<=AG p.W p.H:=by have hN:=DB X.hs;have a:=X.S.nd s.c;rw[X.at_ hs]at a;refine d0x _ _ a λx hx=> ?_;have h:=(X.inSt hs hx).1;unfold AU at h;omega
theorem len(X:StG p r L P B):L.length<=AG p.W p.H:=by
 refine Nat.le_trans ?_ X.flat_len;have:∀M:List Stk,(∀s∈M,s.l≠[])->M.length<=(CF M).length:=by
  intro M;induction M with
  |nil=>intro _;simp
  |cons s M a=>
   intro h;have h1:=a λt b=>h t (List.mem_cons_of_mem _ b);have h2:0<s.l.length:=List.length_pos_iff.2 (h s (by simp));have e:CF (s::M)=s.l++CF M:=rfl;rw[e,List.length_append,List.length_cons];omega
 exact this L X.ne
theorem stIn(X:StG p r L P B):FK L:=by
 have hN:=DB X.hs;have hw:=HE X.hs;have h1:=X.len;have h2:=X.flat_len;refine⟨⟨by omega,λs hs=> ?_⟩,λs hs=> ?_,by omega⟩
 .have:=X.lay_len hs;omega
 .have:=X.cQ hs;unfold CP at this;exact⟨this.1,by show s.c.q<=255;omega⟩
theorem cg(X:StG p r L P B){Q:Int->Mv}(h:∀i,AU p i->Q i=P i):StG p r L Q B:=by
 have hs:=X.hs;have hN:=DB hs;refine⟨X.hp,⟨λi a=>by rw[h i a];exact X.G.ok i a,λi e a f g=> ?_⟩,?_,λi a=>by rw[Sk h a];exact X.bd i a,X.lt,X.ne,⟨X.S.nd,λc v=> ?_⟩,nc_cg h X.N,kd_cg hs h X.D⟩
 .rw[h i a,h _ (KH hs a f g).1];exact X.G.cr i e a f g
 .rw[h 0 ⟨Int.le_refl _,by omega⟩];exact X.r0
 .rw[X.S.mem c v];constructor
  .rintro⟨b,d⟩;exact⟨b,by rw[Sk h b];exact d⟩
  .rintro⟨b,d⟩;exact⟨b,by rw[<-Sk h b];exact d⟩
theorem pl(X:StG p r L P B)(a:B<=4000):StG p r L (AO p r) B:=X.cg λi b=>(X.places a).2 i b
theorem mono{a:Int}(X:StG p r L P B)(hB:B<=a):StG p r L P a:=
 ⟨X.hp,X.G,X.r0,λi b=>by have:=X.bd i b;omega,X.lt,X.ne,X.S,X.N,X.D⟩
end StG
abbrev MD:=Pt×Mv×List Stk
def PZ(s:MD):List (Int×Int):=linL (GP s.1 (AO s.1 s.2.1) (3*AG s.1.W s.1.H))
def VD(s:MD)(K C sd:Int)(over:Bool):MD:=(FA s.1 (AO s.1 s.2.1) K C over,EU s.1 (AO s.1 s.2.1) K C sd 0,JN over K C sd s.2.2)
def foLn(s:MD)(a:Int):Int×Int:=(PZ s).getD (a%((PZ s).length:Int)).toNat lnR.d
def foSt(s:MD)(f:Int×Int×Int):MD:=if PZ s=[]then s else VD s (foLn s f.1).1 (foLn s f.1).2 (f.2.1%2) (decide (f.2.2%2=1))
def PY:Nat->Int
 |0=>3
 |i+1=>3*PY i+2
theorem f22{i:Nat}(h:i<=5):3<=PY i/\PY i<=971:=by
 match i,h with
 |0,_=>decide
 |1,_=>decide
 |2,_=>decide
 |3,_=>decide
 |4,_=>decide
 |5,_=>decide
structure SOK (s:MD) (i:Nat):Prop where
 g:StG s.1 s.2.1 s.2.2 (AO s.1 s.2.1) (PY i)
 small:s.1.W<=4/\s.1.H<=4
 few:s.1.l.length<=192*i
 u8:∀c∈s.1.l,AD .u8 c.e
theorem SOK.n{s:MD}{i:Nat}(X:SOK s i):AG s.1.W s.1.H<=64:=by have a:=DB X.g.hs;have hw:=HE X.g.hs;obtain⟨b,c⟩:=X.small;have:s.1.W*s.1.H<=4*4:=Int.mul_le_mul b c (by omega) (by omega);rw[Int.mul_assoc]at a;omega
theorem SOK.mono{s:MD}{i j:Nat}(X:SOK s i)(h:i<=j)(a:j<=5):SOK s j:=by
 refine⟨X.g.mono ?_,X.small,by have:=X.few;omega,X.u8⟩;have:∀j,i<=j->j<=5->PY i<=PY j:=by
  intro j;induction j with
  |zero=>intro h _;have:i=0:=by omega
         subst this;exact Int.le_refl _
  |succ j b=>
   intro h1 h2;by_cases e:i=j+1
   .subst e;exact Int.le_refl _
   .have h3:=b (by omega) (by omega);have h4:=f22 (i:=j) (by omega);show PY i<=3*PY j+2;omega
 exact this j h a
theorem c5e(l:List Cr):(NQ l).length=l.length:=(b5p l).length_eq
theorem SOK.fold{s:MD}{i:Nat}(X:SOK s i)(hi:i+1<=5){K C sd:Int}(b:c5w s.1 (AO s.1 s.2.1) K C)(a:sd=0\/sd=1)(over:Bool):SOK (VD s K C sd over) (i+1):=by
 obtain⟨hK,Y⟩:=X.g.fold X.u8 b a over;have hB:=f22 (i:=i+1) hi;have c:StG (VD s K C sd over).1 (VD s K C sd over).2.1 (VD s K C sd over).2.2 (EU s.1 (AO s.1 s.2.1) K C sd) (PY (i+1)):=Y;refine⟨c.pl (by omega),X.small,?_,?_⟩
 .show (NQ (s.1.l++KY s.1 (AO s.1 s.2.1) K C over)).length<=_;rw[c5e,List.length_append];have h1:=X.few;have h2:=X.n;have h3:(KY s.1 (AO s.1 s.2.1) K C over).length<=3*AG s.1.W s.1.H:=by
   unfold KY;rw[List.length_map];refine Nat.le_trans (List.length_filter_le _ _) ?_;unfold GP;refine Nat.le_trans (List.length_filterMap_le _ _) ?_;simp
  omega
 .exact(d4s (K:=K) (C:=C) (over:=over) X.g.hp X.u8 X.g.G).2
theorem lnS_on{s:MD}{i:Nat}(X:SOK s i){y:Int×Int}:y∈PZ s↔c5w s.1 (AO s.1 s.2.1) y.1 y.2:=lin_on X.g.hp X.g.G
theorem f31{s:MD}{a:Int}(h:PZ s≠[]):foLn s a∈PZ s:=by have hl:0<(PZ s).length:=List.length_pos_iff.2 h;refine Do ?_;have h1:=Int.emod_nonneg a (b:=((PZ s).length:Int)) (by omega);have h2:=Int.emod_lt_of_pos a (b:=((PZ s).length:Int)) (by omega);omega
theorem md2(a:Int):a%2=0\/a%2=1:=by omega
theorem SOK.next{s:MD}{i:Nat}(X:SOK s i)(hi:i+1<=5)(f:Int×Int×Int):SOK (foSt s f) (i+1):=by
 unfold foSt;split
 .exact X.mono (by omega) hi
 .rename_i h;exact X.fold hi ((lnS_on X).1 (f31 h)) (md2 _) _
def FS(S A:List Stk)(q:Nat):Bool:=decide (q<S.length)&& !(A.any λx=>decide (x.c=(S.getD q AA.d).c))
theorem RK{S A:List Stk}{q:Nat}:FS S A q=true↔q<S.length/\(S.getD q AA.d).c∉A.map (·.c):=by unfold FS;rw[Jc,Is,Bool.not_eq_true',J5];simp only[Is,J4,not_exists,not_and]
theorem d27(S:List Stk)(q:Nat):FS S [] q=decide (q<S.length):=by unfold FS;simp
theorem d92{A:List Stk}(nA:CZ A){i:Nat}(hi:i<A.length):(A.getD i AA.d).c∉(A.take i).map (·.c):=by
 unfold CZ at nA;have h:(A.take (i+1)).map (·.c)=(A.take i).map (·.c)++[(A.getD i AA.d).c]:=by rw[II (d:=AA.d) hi,L5];rfl
 have a:((A.take (i+1)).map (·.c)).Nodup:=Mm ((List.take_sublist _ _).map _) nA;rw[h,List.nodup_append]at a;exact λb=>a.2.2 _ b _ Dm rfl
theorem nd_eq{S:List Stk}(a:CZ S){j k:Nat}(b:j<S.length)(f:k<S.length)(h:(S.getD j AA.d).c=(S.getD k AA.d).c):j=k:=by
 rcases Lt j k with e|e|e
 .exfalso;refine d92 a f ?_;rw[<-h];refine J4.2 ⟨S.getD j AA.d,?_,rfl⟩;rw[If,Ig b];exact List.mem_take_iff_getElem.2 ⟨j,Dj,rfl⟩
 .exact e
 .exfalso;refine d92 a b ?_;rw[h];refine J4.2 ⟨S.getD k AA.d,?_,rfl⟩;rw[If,Ig f];exact List.mem_take_iff_getElem.2 ⟨k,Dj,rfl⟩
section
variable{over:Bool}{S A:List Stk}{i k:Nat}
theorem d0m(nA:CZ A)(hi:i<A.length)(f:k<(AR over S (A.take i)).length)(a:((AR over S (A.take i)).getD k AA.d).c=(A.getD i AA.d).c):k<S.length/\(S.getD k AA.d).c=(A.getD i AA.d).c/\(AR over S (A.take i)).getD k AA.d=S.getD k AA.d/\FS S (A.take i) k=true:=by
 have hx:=d92 nA hi;by_cases h:k<S.length
 .obtain⟨g1,g⟩:=@Vh over (A.take i) S k h;have b:(S.getD k AA.d).c=(A.getD i AA.d).c:=g1.symm.trans a;have e:(S.getD k AA.d).c∉(A.take i).map (·.c):=by rw[b];exact hx
  exact⟨h,b,g e,RK.2 ⟨h,e⟩⟩
 .exfalso;have:=@c5f over (A.take i) S k Dj f;rw[a]at this;exact hx this
theorem f1j(h:CZ S)(hi:i<A.length)(j:k<S.length)(g:(S.getD k AA.d).c=(A.getD i AA.d).c){q:Nat}:FS S (A.take (i+1)) q=(!decide (q=k)&&FS S (A.take i) q):=by
 rw[Ku,Jc,RK,RK,II (d:=AA.d) hi,L5,Jd,not_or,Bool.not_eq_true',Kp];simp only[K1,List.map_nil,J6];constructor
 .rintro⟨b,a,f⟩;refine⟨λe=> ?_,b,a⟩;subst e;exact f g
 .rintro⟨b,a,f⟩;exact⟨a,f,λe=>b (nd_eq h a j (e.trans g.symm))⟩
theorem c92(hi:i<A.length)(f:∀j,j<(AR over S (A.take i)).length->((AR over S (A.take i)).getD j AA.d).c≠(A.getD i AA.d).c){q:Nat}:FS S (A.take (i+1)) q=FS S (A.take i) q:=by
 rw[Ku,RK,RK,II (d:=AA.d) hi,L5,Jd,not_or];simp only[K1,List.map_nil,J6];constructor
 .rintro⟨a,b,h3⟩;exact⟨a,b⟩
 .rintro⟨a,b⟩;refine⟨a,b,λe=> ?_⟩;have hl:=(@TZ over (A.take i) S).1;exact f q Dj (((@Vh over (A.take i) S q a).1).trans e)
end
def Qk(hd:Nat->Value)(S:List Stk)(q:Nat):List SV:=[.int .i64 (S.getD q AA.d).c.x,.int .i64 (S.getD q AA.d).c.y,.int .u8 (S.getD q AA.d).c.q,.con (hd q)]
def GI(hd:Nat->Value)(S A M:List Stk)(q:Nat):List SV:=[.int .i64 (M.getD q AA.d).c.x,.int .i64 (M.getD q AA.d).c.y,.int .u8 (M.getD q AA.d).c.q,if FS S A q=true then .con (hd q)else .sl 1 (M.getD q AA.d).l.length (AC.row (M.getD q AA.d).l) none]
section
variable{over:Bool}{S A:List Stk}{hd:Nat->Value}
theorem f1d{q:Nat}:(if q<S.length/\FS S A q=true then(GI hd S A (AR over S A) q).set 3 (.sl 1 (S.getD q AA.d).l.length (AC.row (S.getD q AA.d).l) none)else GI hd S A (AR over S A) q)=AA.row (AR over S A) q:=by
 by_cases h:q<S.length/\FS S A q=true
 .rw[Ih h];have e:=(@Vh over A S q h.1).2 (RK.1 h.2).2;unfold GI RT.row;rw[e];rfl
 .rw[Ii h];have a:¬FS S A q=true:=λk=>h ⟨(RK.1 k).1,k⟩;unfold GI RT.row;rw[Ii a];rfl
theorem c9p:(AA.lst (AR over S A).length λq=>if q<S.length/\FS S A q=true then(GI hd S A (AR over S A) q).set 3 (.sl 1 (S.getD q AA.d).l.length (AC.row (S.getD q AA.d).l) none)else GI hd S A (AR over S A) q)=AR over S A:=by have:(λq=>if q<S.length/\FS S A q=true then(GI hd S A (AR over S A) q).set 3 (.sl 1 (S.getD q AA.d).l.length (AC.row (S.getD q AA.d).l) none)else GI hd S A (AR over S A) q)=AA.row (AR over S A):=Md λq=>f1d;rw[this,RT.lst_row]
theorem sel_is:AA.isL (AR over S A).length λq=>if q<S.length/\FS S A q=true then(GI hd S A (AR over S A) q).set 3 (.sl 1 (S.getD q AA.d).l.length (AC.row (S.getD q AA.d).l) none)else GI hd S A (AR over S A) q:=by have:(λq=>if q<S.length/\FS S A q=true then(GI hd S A (AR over S A) q).set 3 (.sl 1 (S.getD q AA.d).l.length (AC.row (S.getD q AA.d).l) none)else GI hd S A (AR over S A) q)=AA.row (AR over S A):=Md λq=>f1d;rw[this];exact RT.isL_row AA _
theorem f2g(a:CZ S)(nA:CZ A){n:Nat}(d:∀s∈S,s.l.length<=n)(f:∀s∈A,s.l.length<=n):∀s∈AR over S A,s.l.length<=2*n:=by
 intro s hs;have e:=PC (c3p (over:=over) A S a) hs;rw[c35 A S s.c nA]at e;have len:∀(L:List Stk),(∀t∈L,t.l.length<=n)->CZ L->(AX L s.c).length<=n:=λL g h=>by
  rcases Qs L s.c with⟨t,b,e⟩|e
  .rw[<-e,PC h b];exact g t b
  .rw[e];simp
 have h1:=len S d a;have h2:=len A f nA;rw[<-e];unfold MF;split<;>rw[Jm]<;>omega
end
def fdOK(p:Pt)(r:Mv)(L:List Stk)(K C sd:Int):Prop:=StG p r L (AO p r) 4000/\(1<=K/\K<=4)/\(-10000<=C/\C<=10000)/\(sd=0\/sd=1)
abbrev FdI:=(Pt×Mv×List Stk)×(Int×Int×Int)×Bool
def VB(p:Pt)(r:Mv):SV:=.agg [.int .i64 p.W,.int .i64 p.H,.osl 0,.int .u8 r.t,.int .i64 r.x,.int .i64 r.y,.osl 1]
def TU(p:Pt)(L:List Stk):List Blk:=[.row 65 3 p.l.length (DD.row p.l) none,.row CC 4 L.length (AA.row L) none]
def XW:HK:=λa own=>match a,own with
 | [x,.agg [.int .u8 K,.int .i64 C,.int .u8 b,.bool over]],[]=>(KU x).map λq=>⟨q.1/\fdOK q.2.1 q.2.2.1 q.2.2.2 K C b,VB (FA q.2.1 (AO q.2.1 q.2.2.1) K C over) (EU q.2.1 (AO q.2.1 q.2.2.1) K C b 0),TU (FA q.2.1 (AO q.2.1 q.2.2.1) K C over) (JN over K C b q.2.2.2),[]⟩
 |_,_=>none
def FFd28:FamH:=⟨FdI,λ((p,r,L),(K,C,a),over)=>[.agg (EF p r L),.agg [.int .u8 K,.int .i64 C,.int .u8 a,.bool over]],λ_=>[],λ((p,r,L),(K,C,a),_)=>(EL p r/\FK L)/\fdOK p r L K C a,λ((p,r,_),(K,C,a),over)=>VB (FA p (AO p r) K C over) (EU p (AO p r) K C a 0),λ((p,r,L),(K,C,a),over)=>TU (FA p (AO p r) K C over) (JN over K C a L),[]⟩
def Xz(a:List Entry):List Entry:=a++[⟨24,none,.fp true 6 0 0⟩,⟨6,none,.own 5 0⟩,⟨5,none,.own 3 0⟩,⟨4,none,.own 2 0⟩,⟨3,none,.own 1 0⟩,⟨2,none,.own 0 0⟩]
def Wh(p:Pt)(r:Mv)(L:List Stk)(K C sd:Int)(over:Bool)(z:Bool)(stacks:SV)(b:List Cr)(a:List Blk):List Blk:=[.cells 31 (EF p r L),.cells 111 [.int .u8 K,.int .i64 C,.int .u8 sd,.bool over],.cells 31 [.int .i64 0,.int .i64 0,.con (.slice none 0 0),.int .u8 0,.int .i64 0,.int .i64 0,.con (.slice none 0 0)],.cells 28 (AE.sv (BC K C)),.row 65 3 b.length (DD.row b) none,.cells 31 [.int .i64 p.W,.int .i64 p.H,.osl 4,.int .u8 (VY z r (BC K C)).t,.int .i64 (VY z r (BC K C)).x,.int .i64 (VY z r (BC K C)).y,stacks]]++a
def c6k(S A:List Stk)(hd:Nat->Value):Blk:=.pool 3 1 S.length hd (FS S A) (λq=>(S.getD q AA.d).l.length) (λq=>AC.row (S.getD q AA.d).l)
abbrev nilS:SV:=.con (.slice none 0 0)
def IFd28:FdI->Nat->Option Inv
 |((p,r,L),(K,C,a),over),5=>some {β:=Nat×(Nat->Value),ok:=λ(i,_)=>i<=L.length,st:=λ(i,hd)=>⟨Xz [⟨9,none,.int .i64 i⟩,⟨8,none,.osl 8⟩,⟨7,none,.osl 7⟩],Wh p r L K C a over (IQ K C a (L.take i)) nilS p.l [c6k (DM K C a (L.take i)) [] hd,.row CC 4 (CW K C a (L.take i)).length (AA.row (CW K C a (L.take i))) none,.row CC 4 (DM K C a (L.take i)).length (Qk hd (DM K C a (L.take i))) none]⟩,μ:=λ(i,_)=>L.length-i,nl:=[.slot 7 CC 4,.slot 8 CC 4],sub:=λ(i,hd)=>some fun
  |12=>some {β:=Nat,ok:=λj=>(i<L.length/\CU K C (L.getD i AA.d).c=a)/\j<=(L.getD i AA.d).l.length,st:=λj=>⟨Xz [⟨12,none,.int .i64 (((L.getD i AA.d).l.length:Int)-1-j)⟩,⟨11,none,.osl 10⟩,⟨10,none,.own 9 0⟩,⟨9,none,.int .i64 i⟩,⟨8,none,.osl 8⟩,⟨7,none,.osl 7⟩],Wh p r L K C a over (IQ K C a (L.take i)||((L.getD i AA.d).l.reverse.take j).contains 0) nilS p.l [c6k (DM K C a (L.take i)) [] hd,.row CC 4 (CW K C a (L.take i)).length (AA.row (CW K C a (L.take i))) none,.row CC 4 (DM K C a (L.take i)).length (Qk hd (DM K C a (L.take i))) none,.cells CC (AA.sv (L.getD i AA.d)),.row 3 1 j (AC.row ((L.getD i AA.d).l.reverse.take j)) none]⟩,μ:=λj=>(L.getD i AA.d).l.length-j,nl:=[.slot 11 3 1]}
  |_=>none}
 |((p,r,L),(K,C,a),over),19=>some {β:=Nat×(Nat->Value),ok:=λ(i,_)=>i<=(CW K C a L).length,st:=λ(i,hd)=>⟨Xz [⟨13,none,.int .i64 i⟩,⟨8,none,.osl 8⟩,⟨7,none,.sl 4 (CW K C a L).length (AA.row (CW K C a L)) none⟩],Wh p r L K C a over (IQ K C a L) nilS p.l [c6k (DM K C a L) ((CW K C a L).take i) hd,.dead,.row CC 4 (AR over (DM K C a L) ((CW K C a L).take i)).length (GI hd (DM K C a L) ((CW K C a L).take i) (AR over (DM K C a L) ((CW K C a L).take i))) none]⟩,μ:=λ(i,_)=>(CW K C a L).length-i,sub:=λ(i,hd)=>some fun
  |23=>some {β:=Nat×Bool,ok:=λ(k,b)=>i<(CW K C a L).length/\k<=(AR over (DM K C a L) ((CW K C a L).take (if b=true then i+1 else i))).length/\(b=false->∀j,j<k->((AR over (DM K C a L) ((CW K C a L).take i)).getD j AA.d).c≠((CW K C a L).getD i AA.d).c),st:=λ(k,b)=>⟨Xz [⟨15,none,.int .i64 k⟩,⟨14,none,.bool b⟩,⟨13,none,.int .i64 i⟩,⟨8,none,.osl 8⟩,⟨7,none,.sl 4 (CW K C a L).length (AA.row (CW K C a L)) none⟩],Wh p r L K C a over (IQ K C a L) nilS p.l [c6k (DM K C a L) ((CW K C a L).take (if b=true then i+1 else i)) hd,.dead,.row CC 4 (AR over (DM K C a L) ((CW K C a L).take (if b=true then i+1 else i))).length (GI hd (DM K C a L) ((CW K C a L).take (if b=true then i+1 else i)) (AR over (DM K C a L) ((CW K C a L).take (if b=true then i+1 else i)))) none]⟩,μ:=λ(k,b)=>if b=true then 0 else(AR over (DM K C a L) ((CW K C a L).take i)).length-k+1}
  |_=>none}
 |((p,r,L),(K,C,a),over),36=>some {β:=Nat,ok:=λi=>i<=(IM p r).length,st:=λi=>⟨[⟨19,none,.int .i64 i⟩,⟨18,none,.sl 4 (IM p r).length (IC.row (IM p r)) none⟩,⟨16,none,.sl 3 (BL p r).length (AE.row (BL p r)) none⟩,⟨6,none,.own 5 0⟩,⟨4,none,.own 2 0⟩,⟨3,none,.own 1 0⟩,⟨2,none,.own 0 0⟩],Wh p r L K C a over (IQ K C a L) (.osl 9) (p.l++(((IM p r).take i).filter (NJ K C)).map (UJ p (AO p r) over)) [.dead,.dead,.dead,.row CC 4 (JN over K C a L).length (AA.row (JN over K C a L)) none]⟩,μ:=λi=>(IM p r).length-i}
 |_,_=>none
theorem f61{hd:Nat->Value}{v:Value}{S:List Stk}{x y q:Int}{l:List Int}{j:Nat}(hj:j<S.length+1):HC (if j<S.length then Qk hd S j else(List.map (λx:Nat×List SV=>x.snd) [(0,[SV.int .i64 x,SV.int .i64 y,SV.int .u8 q,SV.con v])].reverse).getD (j-S.length) []) (Qk (λk=>if k=S.length then v else hd k) (S++[⟨⟨x,y,q⟩,l⟩]) j):=by
 left;by_cases e:j<S.length
 .have a:(S++[(⟨⟨x,y,q⟩,l⟩:Stk)]).getD j AA.d=S.getD j AA.d:=by
   rw[If,If,It e]
  simp only[Qk,a,Ih e,Ii (show¬j=S.length from Dj)]
 .have:j=S.length:=Dj;subst this;have a:(S++[(⟨⟨x,y,q⟩,l⟩:Stk)]).getD S.length AA.d=⟨⟨x,y,q⟩,l⟩:=by
   rw[If,Iz (Ir _),Ka];rfl
  rw[Ii e,Ka];simp only[Qk,a,Jv];rfl
theorem d6z{S:List Stk}{x:Stk}{q:Nat}:(S++[x]).getD q AA.d=if q<S.length then S.getD q AA.d else if q=S.length then x else AA.d:=by
 by_cases e:q<S.length
 .rw[Ih e,If,If,It e]
 .rw[Ii e];by_cases a:q=S.length
  .subst a;rw[Ih rfl,If,Iz (Ir _),Ka];rfl
  .rw[Ii a,If,Iz Dj,Km (by rw[Mb];omega)];rfl
theorem fp_al{S:List Stk}{x:Stk}{q:Nat}(h:q<S.length+1):(decide (q=S.length)||FS S [] q)=FS (S++[x]) [] q:=by rw[d27,d27,Jm,Mb,J7 h,Jn,Is,Is];omega
theorem fp_ct{S:List Stk}{x:Stk}{a:Nat}{f:Nat->List SV}(b:a=x.l.length)(c:∀j,j<a->f j=AC.row x.l j){q:Nat}(h:q<S.length+1):(if q=S.length then a else(S.getD q AA.d).l.length)=((S++[x]).getD q AA.d).l.length/\∀j,j<(if q=S.length then a else(S.getD q AA.d).l.length)->(if q=S.length then f else AC.row (S.getD q AA.d).l) j=AC.row ((S++[x]).getD q AA.d).l j:=by
 rw[d6z];by_cases e:q=S.length
 .rw[Ih e,Ii Dj,Ih e,Ih e];exact⟨b,c⟩
 .rw[Ii e,Ih Dj,Ii e];exact⟨rfl,λ_ _=>rfl⟩
theorem d2v{l:List Int}{j:Nat}{v:Int}(a:j<l.length)(b:v=l.getD j 0){q:Nat}(hq:q<j+1):HC (if q<j then AC.row (l.take j) q else(List.map (λx:Nat×List SV=>x.snd) [(0,[SV.int .i64 v])].reverse).getD (q-j) []) (AC.row (l.take (j+1)) q):=by
 left;have c:(l.take j).length=j:=Fj;rw[II (d:=0) a];unfold RT.row;by_cases e:q<j
 .rw[Ih e,If,If,It Dj]
 .have:q=j:=Dj;subst this;rw[Ii e,Ka,If (l:=l.take q++_),Iz Dj,c,Ka,b];rfl
theorem f7y{L:List Stk}{K C sd:Int}(h:CZ L):CZ (DM K C sd L):=by unfold CZ DM;exact Mm (List.filter_sublist.map _) h
theorem f5z{L:List Stk}{K C sd:Int}(h:CZ L)(hq:∀s∈L,CP s.c):CZ (CW K C sd L):=by unfold CZ CW;rw[Lq];have d:((L.filter λs=>decide (CU K C s.c=sd)).map (·.c)).Nodup:=Mm (List.filter_sublist.map _) h;rw[List.Nodup,Kf]at d⊢;refine List.Pairwise.imp_of_mem (λ{a b} ha hb wd e=> ?_) d;exact Dg
theorem fdB_0{hd:Nat->Value}{S:List Stk}{q:Nat}(h:q<S.length):HC (Qk hd S q) (GI hd S [] S q):=by left;unfold Qk GI;rw[d27,Ih (J7 h)]
theorem c9t{a b:List Int}{j:Nat}:(if j<a.length then AC.row a j else AC.row b (j-a.length))=AC.row (a++b) j:=by
 unfold RT.row;by_cases e:j<a.length
 .rw[Ih e,If,If,It e]
 .rw[Ii e,If,If (l:=a++b),Iz Dj]
theorem d8q{a b:List Int}{j:Nat}:(if j<0+a.length then if j<0 then []else AC.row a (j-0)else AC.row b (j-(0+a.length)))=AC.row (a++b) j:=by rw[<-c9t,Ki,Ii (Ja _)];rfl
section
variable{over:Bool}{S A:List Stk}{hd:Nat->Value}{i k:Nat}
theorem d0p{n sz:Nat}{f:Nat->List SV}{c:Option Nat}{l:List Int}(o:CZ S)(r:i<A.length)(s:k<S.length)(t:(S.getD k AA.d).c=(A.getD i AA.d).c)(u:FS S (A.take i) k=true)(v:AR over S (A.take (i+1))=(AR over S (A.take i)).set k ⟨((AR over S (A.take i)).getD k AA.d).c,l⟩)(w:sz=1)(z:n=l.length)(B:∀j,j<n->f j=AC.row l j){q:Nat}(C:q<(AR over S (A.take i)).length):HC (DH (decide (q=k)) [.int .i64 ((AR over S (A.take i)).getD k AA.d).c.x,.int .i64 ((AR over S (A.take i)).getD k AA.d).c.y,.int .u8 ((AR over S (A.take i)).getD k AA.d).c.q,.sl sz n f c] (GI hd S (A.take i) (AR over S (A.take i)) q)) (GI hd S (A.take (i+1)) (AR over S (A.take (i+1))) q):=by
 subst w;have a:=f1j o r s t (q:=q);rw[v];generalize AR over S (A.take i)=M at*;by_cases e:q=k
 .subst e;right;have b:(M.set q ⟨(M.getD q AA.d).c,l⟩).getD q AA.d=⟨(M.getD q AA.d).c,l⟩:=by
   rw[If,Jq C];rfl
  rw[J7 rfl]at a⊢;have m:¬FS S (A.take (i+1)) q=true:=by rw[a];simp
  unfold GI;rw[Ih u,Ii m,b];exact⟨rfl,rfl,rfl,⟨z,Ef,G9,B⟩,Im⟩
 .left;rw[J9 e]at a⊢;have m:FS S (A.take (i+1)) q=FS S (A.take i) q:=by rw[a];simp
  have b:(M.set k ⟨(M.getD k AA.d).c,l⟩).getD q AA.d=M.getD q AA.d:=by simp only[If];rw[Iw (λh=>e h.symm)]
  unfold GI;rw[m,b];by_cases g:FS S (A.take i) q=true
  .rw[Ih g];rfl
  .rw[Ii g];rfl
theorem f64(a:i<A.length)(b:∀j,j<(AR over S (A.take i)).length->((AR over S (A.take i)).getD j AA.d).c≠(A.getD i AA.d).c)(f:AR over S (A.take (i+1))=AR over S (A.take i)++[A.getD i AA.d]){q:Nat}(hq:q<(AR over S (A.take i)).length+1):HC (if q<(AR over S (A.take i)).length then GI hd S (A.take i) (AR over S (A.take i)) q else(List.map (λx:Nat×List SV=>x.snd) [(0,[SV.int .i64 (A.getD i AA.d).c.x,SV.int .i64 (A.getD i AA.d).c.y,SV.int .u8 (A.getD i AA.d).c.q,SV.sl 1 (A.getD i AA.d).l.length (AC.row (A.getD i AA.d).l) none])].reverse).getD (q-(AR over S (A.take i)).length) []) (GI hd S (A.take (i+1)) (AR over S (A.take (i+1))) q):=by
 left;have k:=c92 a b (q:=q);have hl:=(@TZ over (A.take i) S).1;rw[f];unfold GI;rw[k];by_cases e:q<(AR over S (A.take i)).length
 .rw[Ih e,If (l:=_++_),It e,<-If]
 .have m:q=(AR over S (A.take i)).length:=Dj;have g:¬FS S (A.take i) q=true:=λh=>by
   have:=(RK.1 h).1;omega
  rw[Ii e,Ii g,m,Ka,If (l:=_++_),Iz (Ir _),Ka];rfl
end
theorem zmv_eq{p:Pt}{r:Mv}{L:List Stk}{P:Int->Mv}{B K C sd:Int}(X:StG p r L P B):IQ K C sd L=decide (CU K C (AV p P 0)=sd):=by
 have hN:=DB X.hs;have c:AU p 0:=⟨Mp _,Dj⟩
 rw[Ku,Is];unfold IQ;rw[J3];constructor
 .rintro⟨s,hs,h⟩;rw[Jc,Is,List.contains_iff_mem]at h;rw[(X.inSt hs h.2).2];exact h.1
 .intro h;have a:=(X.S.mem (AV p P 0) 0).2 ⟨c,rfl⟩;rcases Qs L (AV p P 0)with⟨s,hs,e⟩|e
  .have b:=X.at_ hs;rw[e]at b;refine⟨s,hs,?_⟩;rw[Jc,Is,List.contains_iff_mem,<-b,e];exact⟨h,a⟩
  .rw[e]at a;cases a
theorem rt_fd{p:Pt}{r:Mv}{L:List Stk}{P:Int->Mv}{B K C sd:Int}(X:StG p r L P B):VY (IQ K C sd L) r (BC K C)=EU p P K C sd 0:=by
 rw[rt_eq,zmv_eq X];unfold EU;rw[X.r0];by_cases h:CU K C (AV p P 0)=sd
 .rw[Ih h,Ih (J7 h)]
 .rw[Ii h,Ii Dr]
theorem ps_in{p:Pt}{r:Mv}{L:List Stk}{P:Int->Mv}{B:Int}(X:StG p r L P B){n:Nat}{x:Pas}(d:n=3*AG p.W p.H)(h:x∈GP p P n):AU p x.a/\AU p x.b:=by subst d;obtain⟨a,e,c,_,_,rfl⟩:=(XA X.hp X.G).1 h;exact⟨c.1,(KH X.hs c.1 c.2.1 c.2.2).1⟩
theorem ps_len(p:Pt)(P:Int->Mv)(n:Nat):(GP p P n).length<=n:=by unfold GP;refine Ke (List.length_filterMap_le _ _) ?_;rw[List.length_range];exact Bw
theorem f19{A:List Cr}{x:Cr}{l:List SV}{j:Nat}(a:l=DD.sv x)(hj:j<A.length+1):HC (if j<A.length then DD.row A j else(List.map (λx:Nat×List SV=>x.snd) [(0,l)].reverse).getD (j-A.length) []) (DD.row (A++[x]) j):=by
 left;by_cases e:j<A.length
 .rw[Ih e,b06 DD e]
 .have:j=A.length:=Dj;subst this;rw[Ii e,Ka,YB,a];rfl
theorem f33{l:List Pas}{K C:Int}{i:Nat}(h:i<l.length)(hx:(l.getD i IC.d).K=K/\(l.getD i IC.d).C=C):(l.take (i+1)).filter (NJ K C)=(l.take i).filter (NJ K C)++[l.getD i IC.d]:=by rw[II (d:=IC.d) h,M6];generalize l.getD i IC.d=x at*;simp[NJ,hx.1,hx.2]
theorem d6n{l:List Pas}{K C:Int}{i:Nat}(h:i<l.length)(hx:¬(l.getD i IC.d).K=K\/¬(l.getD i IC.d).C=C):(l.take (i+1)).filter (NJ K C)=(l.take i).filter (NJ K C):=by rw[II (d:=IC.d) h,M6];generalize l.getD i IC.d=x at*;rcases hx with hx|hx<;>simp[NJ,hx]
theorem cl_dec(a b:Cl):(decide (a.x=b.x)&&(decide (a.y=b.y)&&decide (a.q=b.q)))=decide (a=b):=by
 rw[Ku,Jc,Jc,Is,Is,Is,Is];constructor
 .rintro⟨c,d,e⟩;exact Cl.ext' c d e
 .rintro rfl;exact⟨rfl,rfl,rfl⟩
theorem mi_bd{K C:Int}(_:1<=K/\K<=4)(hC: -10000<=C/\C<=10000):(0<=(GS K C).1/\(GS K C).1<=7)/\(-20000<=(GS K C).2.1/\(GS K C).2.1<=20000)/\ -20000<=(GS K C).2.2/\(GS K C).2.2<=20000:=by
 unfold GS;repeat' split
 all_goals(dsimp only;omega)
theorem pHFd28:HS 43 XW:=by
 refine HB {l:=[(28,d91),(85,d7z),(20,XN),(22,Vv),(25,Wa),(84,WQ),(71,d8p)],h:=[(87,d6t),(86,d98)],G:={gx:=λ_=>[.sel [4,9,2]]},fz:=λd=>Nat.beq d 99||Nat.beq d 27||Nat.beq d 148,gr:=λid=>bif Nat.beq id 2 then [.poolN 3 1 24]else bif Nat.beq id 9 then [.orders]else bif Nat.beq id 2063 then [.poolPut 62 6 24]else bif Nat.beq id 18 then [.fz 7]else bif Nat.beq id 27 then [.poolTake 8 3 6 15 24]else bif Nat.beq id 28 then [.fz 9,.flat 8]else bif Nat.beq id 29 then [.fz 10,.flat 8]else bif Nat.beq id 1004 then [.poolSeal 8 3 6 24,.fz 8]else []} ⟨by simpa using⟨pMi28,pSi28,pImg,pTh25,pPl25,pPs28,pEd28⟩,Dm,by simpa using⟨pOr28,pHSo28⟩⟩ FFd28 IFd28 XW ?_ ?_ ?_ Tryz.func43 Dk Dk Dk ?_
 .intro args own s h hp;unfold XW at h;split at h
  .rename_i x K C sd over;simp only[In]at h;obtain⟨⟨q,p,r,L⟩,hx,rfl⟩:=h;obtain⟨h1,Z,h3⟩:=PD hx hp.1;exact⟨((p,r,L),(K,C,sd),over),⟨h1,Dz,Im⟩,rfl,Im,⟨⟨Z,h3⟩,hp.2⟩,rfl,rfl,rfl⟩
  .cases h
 .exact Bt
 .intro i;show 0<=2;decide
 .rintro⟨⟨p,r,L⟩,⟨K,C,sd⟩,over⟩ μ ⟨⟨⟨⟨c9,c8⟩,J⟩,M⟩,X,hK,hC,hsd⟩;have z:=mi_bd hK hC;have N:=(X.places Dj).1;have hs:=X.hs;have hN:=DB hs;have cf:∀i,i<L.length->L.getD i AA.d∈L:=λi m=>Do m;have bf:L.length<=1024:=by have:=X.len;omega
  have vz:∀i,i<L.length->((-4000<=(L.getD i AA.d).c.x/\(L.getD i AA.d).c.x<=4000)/\ -4000<=(L.getD i AA.d).c.y/\(L.getD i AA.d).c.y<=4000)/\0<=(L.getD i AA.d).c.q/\(L.getD i AA.d).c.q<=3:=λi m=>by have h1:=X.cB (cf i m);have Z:=X.cQ (cf i m);unfold CP at Z;omega
  refine X0a _ ?_;(repeat' first|constructor|intro h)<;>refine Lm ?_
  all_goals(try first
   |exact At
   |(refine⟨rfl,.inl rfl,Dj,?_⟩;exact LC Dk Dj))
  refine⟨((0:Nat),λ_=>undef),Ix _,?_,?_⟩
  .refine X0a _ ?_;(repeat' first|constructor|intro h)<;>refine Lm ?_
   all_goals first
    |omega
    |exact Bb
    |exact A5
    |exact λ_ _=>.inl (by rw[Ii (Ja _)];rfl)
    |exact Ai
    |skip
  .rintro⟨i,hd⟩ m;replace m:i<=L.length:=m;have O:=λh:i<L.length=>X.lay_len (cf i h);have gu:=@d6e L K C sd i;have V0:=@d5u L K C sd i;have o:=vz i;have X8:(if Tj K C (L.getD i AA.d).c.x (L.getD i AA.d).c.y (L.getD i AA.d).c.q<6*C then(0:Int)else 1)=CU K C (L.getD i AA.d).c:=rfl;refine X0a _ ?_;(repeat' first|constructor|intro h)<;>refine Lm ?_
   all_goals(try simp only[Hv,Hw,X8]at*)
   all_goals(try first
    |omega
    |(have sh:=o Dj;first
       |exact At
       |exact⟨⟨Dj,Dj⟩,⟨Dj,Dj⟩,⟨Dj,Dj⟩,⟨Dj,Dj⟩,Dj,Dj⟩)
    |exact A4
    |(have N2:=O Dj;refine⟨Dj,?_⟩;exact LC Dk Dj)
    |exact Aa)
   all_goals(try(
    have f:i<L.length:=Dj;have O1:¬CU K C (L.getD i AA.d).c=sd:=Dp;obtain⟨e1,e2⟩:=f30 f O1;have e3:=z_stay f O1;refine⟨(i+1,λk=>if k=(DM K C sd (L.take i)).length then(‹SlH›).val else hd k),E1,G8,?_⟩;rw[e1,e2,e3];all_goals refine X0a _ ?_;(repeat' first|constructor|intro h)<;>refine Lm ?_
    all_goals first
     |exact Ak
     |(rw[Jm];rfl)
     |exact λ_ h=>fp_al h
     |exact λ_ h _=>⟨rfl,fp_ct Dj (λj hj=>by rw[Ii (Ja _)];rfl) h⟩
     |exact λ_ h=>f61 h
     |skip))
   ·-- what moves: its layers,the highest first
    have f:i<L.length:=Dj;have P:CU K C (L.getD i AA.d).c=sd:=Dp;have Zt:=O f;have sh:=o f;clear O o X8;have s9:=(X.G.ok 0 ⟨Mp _,Dj⟩).1;have O2:=(X.vm Dj (i:=0) ⟨Mp _,Dj⟩).1;rw[X.r0]at s9 O2;have hrx:=OH O2;unfold FL at s9;have X9:(0<=(BC K C).t/\(BC K C).t<=7)/\(-20000<=(BC K C).x/\(BC K C).x<=20000)/\ -20000<=(BC K C).y/\(BC K C).y<=20000:=z;refine⟨(0:Nat),⟨⟨f,P⟩,Ix _⟩,?_,?_⟩
    .have B:(IQ K C sd (L.take i)||((L.getD i AA.d).l.reverse.take 0).contains 0)=IQ K C sd (L.take i):=Dm;rw[B];refine X0a _ ?_;(repeat' first|constructor|intro h)<;>refine Lm ?_
     all_goals first
      |exact Ak
      |exact Ai
      |exact Ag
      |skip
    .intro j hj;replace hj:(i<L.length/\CU K C (L.getD i AA.d).c=sd)/\j<=(L.getD i AA.d).l.length:=hj;obtain⟨_,Zu⟩:=hj;have hix:j<(L.getD i AA.d).l.length->(((L.getD i AA.d).l.length:Int)-1-(j:Int)).toNat=(L.getD i AA.d).l.length-1-j:=λh=>Dj;refine X0a _ ?_;(repeat' first|constructor|intro h)<;>refine Lm ?_
     all_goals(try simp only[Hv]at*)
     all_goals(try first
      |exact B4
      |exact Aa
      |exact⟨⟨s9,⟨Dj,Dj⟩,Dj,Dj⟩,X9.1,X9.2⟩
      |exact⟨X9.1,⟨⟨Dj,Dj⟩,Dj,Dj⟩,⟨Dj,Dj⟩,⟨Dj,Dj⟩,Dj,Dj⟩)
     all_goals first
      |(have u:j<(L.getD i AA.d).l.length:=by omega
        have Q:=f3v u;rw[hix u]at*;refine⟨j+1,⟨⟨f,P⟩,Dj⟩,Dj,?_⟩;have w9:=d7k (l:=(L.getD i AA.d).l.reverse) (j:=j) (by simpa using u);first
         |(have hz:(L.getD i AA.d).l.getD ((L.getD i AA.d).l.length-1-j) 0=0:=by assumption
           have B:(IQ K C sd (L.take i)||((L.getD i AA.d).l.reverse.take (j+1)).contains 0)=true:=by rw[w9,Q,J7 hz];simp
           rw[B];all_goals refine X0a _ ?_;(repeat' first|constructor|intro h)<;>refine Lm ?_
           all_goals first
            |exact Ak
            |exact λ_ h=>d2v (by simpa using u) Q.symm h
            |exact Ag
            |skip)
         |(have hz:¬(L.getD i AA.d).l.getD ((L.getD i AA.d).l.length-1-j) 0=0:=by assumption
           have B:(IQ K C sd (L.take i)||((L.getD i AA.d).l.reverse.take (j+1)).contains 0)=(IQ K C sd (L.take i)||((L.getD i AA.d).l.reverse.take j).contains 0):=by rw[w9,Q,J9 hz,Lu]
           rw[B];all_goals refine X0a _ ?_;(repeat' first|constructor|intro h)<;>refine Lm ?_
           all_goals first
            |exact Ak
            |exact λ_ h=>d2v (by simpa using u) Q.symm h
            |exact Ag
            |skip))
      |(have u:j=(L.getD i AA.d).l.length:=by omega
        obtain⟨e1,e2⟩:=f6g f P;have e3:=z_away f P;refine⟨(i+1,hd),E1,G8,?_⟩;rw[e1,e2,e3,<-u];all_goals refine X0a _ ?_;(repeat' first|constructor|intro h)<;>refine Lm ?_
        all_goals first
         |exact Ak
         |(rw[Jm];rfl)
         |exact Ag
         |(intro q n;refine d3g Dk (by rw[List.length_reverse];exact u) (λk R=> ?_) n;rw[Kh (by rw[List.length_reverse];omega)])
         |skip)
      |skip
   ·-- what moved is laid over or under what stayed
    have br:i=L.length:=Dj;subst br;simp only[Kj]at gu V0⊢;clear O o X8;have T:=f7y (K:=K) (C:=C) (sd:=sd) X.cells;have U:=f5z (K:=K) (C:=C) (sd:=sd) X.cells (λs h=>X.cQ h);have Q8:∀s∈DM K C sd L,s.l.length<=1024:=λs hs=>by have:=X.lay_len (Jx.1 hs).1;omega
    have Z0:∀s∈CW K C sd L,s.l.length<=1024:=λs hs=>by obtain⟨t,ht,rfl⟩:=J4.1 hs;have:=X.lay_len (Jx.1 ht).1;show t.l.reverse.length<=_;rw[List.length_reverse];omega
    generalize hS:DM K C sd L=S at*;generalize hA:CW K C sd L=A at*;refine⟨((0:Nat),hd),Ix _,?_,?_⟩
    .refine X0a _ ?_;(repeat' first|constructor|intro h)<;>refine Lm ?_
     all_goals first
      |exact Ak
      |exact Ag
      |exact λ_ h=>fdB_0 h
      |skip
    .rintro⟨i,hd⟩ m;replace m:i<=A.length:=m;refine X0a _ ?_;(repeat' first|constructor|intro h)<;>refine Lm ?_
     all_goals(try simp only[Hv]at*)
     all_goals(try first
      |exact B4
      |(intro q _ _ ha;unfold GI;rw[if_pos ha];rfl)
      |(simp only[CL];exact⟨⟨⟨⟨EY _,c9⟩,c8⟩,J⟩,N⟩)
      |(simp only[CL,RT.lst_row];exact⟨⟨⟨⟨⟨EY _,c9⟩,c8⟩,J⟩,NV L M.1,M.2⟩,N⟩)
      |(simp only[CL,RT.lst_row];exact⟨⟨⟨⟨EY _,c9⟩,c8,J⟩,NV L M.1,M.2⟩,N⟩)
      |(have E:i=A.length:=by omega
        subst E;simp only[Kj];exact⟨sel_is,by have:=(@TZ over A S).2;omega,λs hs=>by rw[c9p]at hs;have:=f2g T U Q8 Z0 s hs;omega⟩))
     .have f:i<A.length:=Dj;have hMl:=@TZ over (A.take i) S;have Zy:(A.take i).length=i:=Fj;refine⟨((0:Nat),false),⟨f,Ix _,λ_ j hj=>absurd hj (Ja _)⟩,?_,?_⟩
      .exact X2c
      .rintro⟨k,fd⟩ ⟨_,V,w⟩;have hMb:(AR over S (A.take i)).length<=2048:=Dj;have hMb':(AR over S (A.take (i+1))).length<=4096:=by have:=(@TZ over (A.take (i+1)) S).2;rw[List.length_take]at this;omega
       cases fd with
       |true=>
        clear w;replace V:k<=(AR over S (A.take (i+1))).length:=V;all_goals refine X0a _ ?_;(repeat' first|constructor|intro h)<;>refine Lm ?_
        all_goals(try(have hh:=‹(decide _&& !_)=true›;simp at hh;done))
        all_goals(try first
         |exact Ap)
        refine⟨(i+1,hd),E1,by show A.length-(i+1)<A.length-i;omega,?_⟩;all_goals exact X2c
       |false=>
        replace w:=w rfl;replace V:k<=(AR over S (A.take i)).length:=V;all_goals refine X0a _ ?_;(repeat' first|constructor|intro h)<;>refine Lm ?_
        all_goals(try simp only[Hv,cl_dec,I4,Bool.not_false,Bool.and_true,Hw]at*)
        all_goals(try first
         |exact B4
         |(show k<(AR over S (A.take i)).length;omega)
         |(show k=k;rfl)
         |(have ju:=Z0 _ (Do (d:=AA.d) f);refine⟨Im,.inl trivial,Dj,?_⟩;exact LC Dk Dj)
         |(have n:=Q8 _ (Do (d:=AA.d) (d0m (over:=over) (S:=S) (k:=k) U f Dj Dp).1);have ju:=Z0 _ (Do (d:=AA.d) f);first
            |exact Aa
            |(refine⟨Dj,Dj,Dj,?_⟩;exact LC Dk Dj))
         |exact Aa
         |(obtain⟨F,Y,m3,I⟩:=d0m (over:=over) (S:=S) (k:=k) U f Dj Dp
           exact⟨Dj,F,I,by unfold GI;rw[if_pos I];rfl⟩))
        all_goals first
         |(have ba:((AR over S (A.take i)).getD k AA.d).c≠(A.getD i AA.d).c:=by assumption
           refine⟨(k+1,false),⟨f,by show k+1<=(AR over S (A.take i)).length;omega,λ_ j hj=> ?_⟩,by show (AR over S (A.take i)).length-(k+1)+1<_;omega,?_⟩
           .by_cases e:j=k
            .rw[e];exact ba
            .exact w j Dj
           .refine X0a _ ?_;(repeat' first|constructor|intro h)<;>refine Lm ?_
            all_goals first
             |exact Ak
             |exact Ag
             |skip)
         |(have jd:((AR over S (A.take i)).getD k AA.d).c=(A.getD i AA.d).c:=by assumption
           have jz:k<(AR over S (A.take i)).length:=Dj;obtain⟨F,Y,m3,I⟩:=d0m U f jz jd;have v:AR over S (A.take (i+1))=(AR over S (A.take i)).set k ⟨((AR over S (A.take i)).getD k AA.d).c,MF over ((AR over S (A.take i)).getD k AA.d).l (A.getD i AA.d).l⟩:=(b46 f).trans (b3j _ k jz w jd);have lM:(AR over S (A.take (i+1))).length=(AR over S (A.take i)).length:=by rw[v,K4]
           refine⟨(k+1,true),⟨f,by show k+1<=(AR over S (A.take (i+1))).length;omega,λh=>Dw⟩,by show 0<_;omega,?_⟩;all_goals refine X0a _ ?_;(repeat' first|constructor|intro h)<;>refine Lm ?_
           all_goals first
            |exact Ak
            |exact B8
            |exact lM.symm
            |exact λ_ _=>(f1j T f F Y).symm
            |exact λ_ _ _=>⟨rfl,rfl,λ_ _=>rfl⟩
            |(have w3:over=true:=by assumption
              have hl:MF over ((AR over S (A.take i)).getD k AA.d).l (A.getD i AA.d).l=(S.getD k AA.d).l++(A.getD i AA.d).l:=by rw[m3,w3];rfl
              rw[hl]at v;exact λ_ n=>d0p T f F Y I v rfl (Jm).symm (λ_ _=>c9t) n)
            |(have w3:over=false:=by assumption
              have hl:MF over ((AR over S (A.take i)).getD k AA.d).l (A.getD i AA.d).l=(A.getD i AA.d).l++(S.getD k AA.d).l:=by rw[m3,w3];rfl
              rw[hl]at v;exact λ_ n=>d0p T f F Y I v Dk (by rw[Jm];omega) (λ_ _=>d8q) n)
            |skip)
         |(have fj:∀j,j<(AR over S (A.take i)).length->((AR over S (A.take i)).getD j AA.d).c≠(A.getD i AA.d).c:=λj hj=>w j Dj
           have v:AR over S (A.take (i+1))=AR over S (A.take i)++[A.getD i AA.d]:=(b46 f).trans (Ws _ fj);refine⟨(i+1,hd),E1,by show A.length-(i+1)<A.length-i;omega,?_⟩;all_goals refine X0a _ ?_;(repeat' first|constructor|intro h)<;>refine Lm ?_
           all_goals first
            |exact Ak
            |exact B8
            |(rw[v,Jm];rfl)
            |exact λ_ _=>(c92 f fj).symm
            |exact λ_ _ _=>⟨rfl,rfl,λ_ _=>rfl⟩
            |exact λ_ n=>f64 f fj v n
            |skip)
         |skip
     .have E:i=A.length:=Dj;subst E;have eS:JN over K C sd L=NY (AR over S A):=by unfold JN;rw[hS,hA]
      simp only[Kj,c9p]at*;refine⟨(0:Nat),Ix _,?_,?_⟩
      .rw[eS];refine X0a _ ?_;(repeat' first|constructor|intro h)<;>refine Lm ?_
       all_goals(try simp only[CL,List.take_zero,List.filter_nil,List.map_nil,List.append_nil])
       all_goals first
        |exact Ak
        |exact(d9f _).symm
        |skip
      .intro i m;replace m:i<=(IM p r).length:=m;have fq:(IM p r).length<=3*AG p.W p.H:=ps_len _ _ _;have X7:i<(IM p r).length->AU p ((IM p r).getD i IC.d).a/\AU p ((IM p r).getD i IC.d).b:=λh=>ps_in X rfl (Do (d:=IC.d) h);have du:(p.l++List.map (UJ p (AO p r) over) (List.filter (NJ K C) (List.take i (IM p r)))).length<=103072:=by
        rw[Jm,Jp];have:=Ma (NJ K C) (List.take i (IM p r));rw[List.length_take]at this;omega
       have Z1:=Qb J.1 N;have vq:=Z1.pl;refine X0a _ ?_;(repeat' first|constructor|intro h)<;>refine Lm ?_
       all_goals(try simp only[Hv,Bool.and_true,Hw,I1,RT.lst_row]at*)
       all_goals(try first
        |exact B4
        |(have n:=X7 Dj;unfold AU at n;first|omega|exact⟨hs,n.1,n.2⟩)
        |exact Aa
        |exact⟨RT.isL_row DD _,Dj⟩
        |(rw[rt_fd X];done)
        |exact A5)
       all_goals first
        |(have f:i<(IM p r).length:=by omega
          have z:=d6n f Dp;refine⟨i+1,E1,Dy,?_⟩;rw[z];all_goals refine X0a _ ?_;(repeat' first|constructor|intro h)<;>refine Lm ?_
          all_goals first
           |exact Ak
           |exact B8
           |skip)
        |(have f:i<(IM p r).length:=by omega
          have z:=f33 f Dp;refine⟨i+1,E1,Dy,?_⟩;rw[z,L5,<-Ls];all_goals refine X0a _ ?_;(repeat' first|constructor|intro h)<;>refine Lm ?_
          all_goals first
           |exact Ak
           |exact B8
           |exact(@Jm _ (p.l++List.map _ _) (List.map _ [_])).symm
           |(intro j hj
             refine f19 ?_ hj;have o:=‹(decide _ !=over)=true›;have R:FdG.nkG (AO p r) over ((IM p r).getD i IC.d).a=1:=Ii (bne_iff_ne.1 o);show [SV.int .i64 _,SV.int .u8 _,SV.int .u8 1]=[SV.int .i64 _,SV.int .u8 _,SV.int .u8 (FdG.nkG (AO p r) over ((IM p r).getD i IC.d).a)];rw[R];rfl)
           |(intro j hj
             refine f19 ?_ hj;have o:=‹(decide _ !=over)=false›;have R:FdG.nkG (AO p r) over ((IM p r).getD i IC.d).a=2:=Ih (bne_eq_false_iff_eq.1 o);show [SV.int .i64 _,SV.int .u8 _,SV.int .u8 2]=[SV.int .i64 _,SV.int .u8 _,SV.int .u8 (FdG.nkG (AO p r) over ((IM p r).getD i IC.d).a)];rw[R];rfl)
           |skip)
        |(have E:i=(IM p r).length:=by omega
          subst E;simp only[Kj];first
           |(show _=(NQ _).length;rw[c5e];rfl)
           |exact A5
           |skip)
        |skip
def Nc(a r:SV):AK
 | [x]=>some (x=a,r)
 |_=>none
def Pb(a b r:SV):AK
 | [x,y]=>some (x=a/\y=b,r)
 |_=>none
theorem d3h{f:FuncId}{k:AK}{a r:SV}(h:PS f k)(e:∃q,k [a]=some (q,r)/\q):PS f (Nc a r):=c4x h λargs pre s b c=>by
 unfold Nc at b;split at b
 .cases b;subst c;exact e
 .cases b
theorem d26{f:FuncId}{k:AK}{a b r:SV}(h:PS f k)(e:∃q,k [a,b]=some (q,r)/\q):PS f (Pb a b r):=c4x h λargs pre s c d=>by
 unfold Pb at c;split at c
 .cases c;obtain⟨rfl,rfl⟩:=d;exact e
 .cases c
def SE(xs:List SV)(r:SV):AK:=λa=>some (a=xs,r)
theorem top_of{F:Fam}{f:FuncId}(hf:∃fn,Tryz.prog.funcs[f]?=some fn/\(fn.name== "runtime.NumGoroutine")=false/\fn.body.isNone=false)(h:∀i,F.pre i->PS f (SE (F.args i) (.bool true))):PS f (SN F):=⟨hf,λA w args vals pre s hA hg hD hk hp=>by
 unfold SN at hk;split at hk
 .rename_i W2;obtain⟨i,hi,rfl⟩:=W2;cases hk;exact(h i hi).2 A w _ vals _ _ hA hg hD rfl rfl
 .cases hk⟩
def F1(xs:List SV)(r:SV):Fam:=⟨Unit,λ_=>xs,λ_=>True,λ_=>r⟩
theorem law1{xs:List SV}{r:SV}(h:BG xs xs):Px (F1 xs r) (SE xs r):=λzs p s a b=>by unfold SE at a;cases a;subst b;exact⟨(),h,Im,rfl⟩
section
variable{p:Pt}{r:Mv}{L:List Stk}
end
section
variable{α:Type}{key:α->List Int}
abbrev RZ(key:α->List Int)(l:List α):Prop:=l.Pairwise λa b=>AZ (key a) (key b)<0
theorem d3u:∀(l m:List α),RZ key l->RZ key m->(∀x,x∈l↔x∈m)->l=m
 | [],[],_,_,_=>rfl
 | [],y::m,_,_,h=>absurd ((h y).2 Dm) Dm
 |x::l,[],_,_,h=>absurd ((h x).1 Dm) Dm
 |x::l,y::m,c,d,h=>by
  rw[RZ,K0]at c d;have e:x=y:=by
   rcases Iv.1 ((h x).1 Dm)with e|e
   .exact e
   .rcases Iv.1 ((h y).2 Dm)with f|f
    .exact f.symm
    .have:=UF _ _ _ (d.1 x e) (c.1 y f);rw[Tp]at this;omega
  subst e;have g:∀{l:List α},(∀a∈l,AZ (key x) (key a)<0)->x∉l:=λi hx=>by have:=i x hx;rw[Tp]at this;omega
  rw[d3u l m c.2 d.2 λz=>⟨λb=>by
   rcases Iv.1 ((h z).1 (Je _ b))with e|e
   .subst e;exact absurd b (g c.1)
   .exact e,λb=>by
   rcases Iv.1 ((h z).2 (Je _ b))with e|e
   .subst e;exact absurd b (g d.1)
   .exact e⟩]
theorem d7m{l:List α}(d:(l.map key).Nodup):RZ key (GC key l):=by have c:((GC key l).map key).Nodup:=(((TP key l).map key).nodup_iff).2 d;rw[List.Nodup,Kf]at c;refine((b0u key l).and c).imp λ{a b} h=> ?_;have h3:AZ (key a) (key b)≠0:=λe=>h.2 (Of _ _ e);have:=h.1;omega
theorem pw_of{d:α}{l:List α}(h:∀i j,i<j->j<l.length->AZ (key (l.getD i d)) (key (l.getD j d))<0):RZ key l:=by rw[RZ,Jr];intro i j b a c;have:=h i j c a;rw[If,If,Ig b,Ig a]at this;exact this
end
theorem f24(L:List Stk):∀i,i<=L.length->(oF L i).map (·.1)=AR true [] (L.take i)
 |0,_=>rfl
 |i+1,h=>by
  have s:=f24 L i Dj;have b:=(To (L:=L) i Dj).2.1;rw[Uz Dj,b46 Dj,<-s];generalize L.getD i AA.d=x;generalize oF L i=O at b;have g:∀j,((O.map (·.1)).getD j AA.d)=(O.getD j dO).1:=λj=>by rw[If,If,Jb];cases O[j]?<;>rfl
  have gk:∀j,j<O.length->(kO O).getD j []=EV (O.getD j dO).1.c:=λj a=>by unfold kO;rw[If,If,Jb,Ig a];rfl
  cases hf:FG O (EV x.c)with
  |some k=>
   obtain⟨m,n⟩:=Tt hf;rw[RV hf,List.map_set];have o:((O.map (·.1)).getD k AA.d).c=x.c:=by rw[g];exact b8j n
   have a:∀j,j<k->((O.map (·.1)).getD j AA.d).c≠x.c:=λj a e=>by
    rw[g]at e;rw[List.Nodup,Jr]at b;have hl:(kO O).length=O.length:=by unfold kO;rw[List.length_map]
    have:=b j k Dj Dj a;have q:=gk j Dj;have r:=gk k m;rw[If,Ig Dj]at q r;refine this ?_;show (kO O)[j]=(kO O)[k];have f:(kO O)[j]=EV (O.getD j dO).1.c:=q;have l:(kO O)[k]=EV (O.getD k dO).1.c:=r;rw[f,l,e,n]
   rw[b3j _ k (by rw[Jp];exact m) a o,o,g];rfl
  |none=>
   rw[Rd hf,L5];refine(Ws _ λj a e=> ?_).symm;rw[Jp]at a;rw[g]at e;refine c5v hf ?_;rw[<-e];unfold kO;refine J4.2 ⟨O.getD j dO,?_,rfl⟩;rw[If,Ig a];exact Ji a
theorem c42{A:List Stk}(h:CZ A):∀i,i<=A.length->AR true [] (A.take i)=A.take i
 |0,_=>rfl
 |i+1,hi=>by rw[b46 Dj,c42 h i Dj,II (d:=AA.d) (by omega:i<A.length)];refine Ws _ λj a e=>d92 h (by omega:i<A.length) ?_;rw[<-e];exact J4.2 ⟨_,Do a,rfl⟩
theorem ov_mrg{A B:List Stk}(a:CZ A):(oF (A++B) (A++B).length).map (·.1)=AR true A B:=by
 have e:=c42 a A.length (Ir _);rw[Kj]at e;rw[f24 _ _ (Ir _),Kj];have b:AR true [] (A++B)=AR true (AR true [] A) B:=by unfold AR;rw[List.foldl_append]
 rw[b,e]
theorem f6z{M:List Stk}(h:CZ M):(M.map Pq).Nodup:=by unfold CZ at h;rw[List.Nodup,Kf]at h⊢;exact h.imp λb e=>b (b7w (a:=_) e)
end Go.Proofs.YtngppkidkigcbaaGreatDoor.V
