/-
  Parts of the proof: H0 G0 E1 G2 V15 V15b. Conditions: none.
-/
import Derived.Test.YtaihldljnlgnoaaGreatDoorScc2
set_option maxRecDepth 100000
set_option maxHeartbeats 40000000
namespace Go.Proofs.YtaihldljnlgnoaaGreatDoor.V
open Go
def Rn:List Nat->Bool
 | []=>true
 |x::r=> !r.contains x&&Rn r
def BV(k:Nat):List Nat->Option Nat
 | []=>none
 |a::r=>if a=k then some 0 else(BV k r).map (· +1)
theorem QR{k j:Nat}:∀{l:List Nat},BV k l=some j->l[j]?=some k:=by
 intro l;induction l generalizing j with
 |nil=>intro h;simp[BV]at h
 |cons a r b=>
  intro h;simp only[BV]at h;split at h
  .rename_i e;cases h;simp[e]
  .simp only[J7]at h;obtain⟨i,c,rfl⟩:=h;simpa using b c
theorem XO{k:Nat}:∀{l:List Nat},BV k l=none->k∉l:=by
 intro l;induction l with
 |nil=>intro _ h;simp at h
 |cons a r c=>
  intro h;simp only[BV]at h;split at h
  .cases h
  .rename_i e;simp only[Option.map_eq_none_iff]at h;intro b;rcases Jd.1 b with b|b
   .exact e b.symm
   .exact c h b
theorem b1b{l:List Nat}(h:l.Nodup){k j:Nat}(b:l[j]?=some k):BV k l=some j:=by
 cases hi:BV k l with
 |none=>exact absurd (J6 b) (XO hi)
 |some i=>
  have m:=QR hi;obtain⟨c,d⟩:=J4.1 m;obtain⟨e,f⟩:=J4.1 b;have g:=K8.1 h;rcases Lz i j with a|rfl|a
  .exact absurd (d.trans f.symm) (g i j c e a)
  .rfl
  .exact absurd (f.trans d.symm) (g j i e c a)
def SV.ren00(g:Nat->Option Nat):SV->SV
 |.own k o=>match g k with|some j=>.own j o|none=>.any
 |.osl k=>match g k with|some j=>.osl j|none=>.any
 |.omp k=>match g k with|some j=>.omp j|none=>.any
 |.oel k a i o=>match g k with|some j=>.oel j a i o|none=>.any
 |.fp b k i o=>match g k with|some j=>.fp b j i o|none=>.any
 |.agg _|.tup _=>.any
 |.clo f c=>if c.isEmpty then .clo f []else .any
 |s=>s
def SV.ren0(g:Nat->Option Nat):SV->SV
 |.clo f a=>.clo f (a.map (SV.ren00 g))
 |s=>s.ren00 g
def SV.ren1(g:Nat->Option Nat):SV->SV
 |.agg a=>.agg (a.map (SV.ren0 g))
 |s=>s.ren0 g
def SV.ren2(g:Nat->Option Nat):SV->SV
 |.tup a=>.tup (a.map (SV.ren1 g))
 |s=>s.ren1 g
def Blk.ren(g:Nat->Option Nat):Blk->Blk
 |.cells T d=>.cells T (d.map (SV.ren0 g))
 |.pmap K k a BV=>match g k with|some j=>.pmap K j a BV|none=>.dead
 |.fam T e n (some (i,c)) F=>match g c with|some j=>.fam T e n (some (i,j)) F|none=>.dead
 |.rowh T h n f c i u=>.rowh T h n f c i (u.map (SV.ren0 g))
 |b=>b
section
variable{w:World}{H H':Nat->Prop}{μ μ':Mu}{g:Nat->Option Nat}
theorem b5z (u : ∀ b, H' b → H b) (f : ∀ k j x, g k = some j → μ k = some x → μ' j = some x) {s : SV} {v : Value} (h : D w H μ s v) : D w H' μ' (s.ren00 g) v := by
  have c : s.pure = true → s.ren00 g = s → D w H' μ' (s.ren00 g) v := λy e => by
    rw [e]
    exact HU u h y
  cases h with
  | own h => simp only [SV.ren00]; split; · rename_i d; exact .own (f _ _ _ d h)
             · exact .any
  | osl h => simp only [SV.ren00]; split; · rename_i d; exact .osl (f _ _ _ d h)
             · exact .any
  | omp h => simp only [SV.ren00]; split; · rename_i d; exact .omp (f _ _ _ d h)
             · exact .any
  | oel h => simp only [SV.ren00]; split; · rename_i d; exact .oel (f _ _ _ d h)
             · exact .any
  | fp h =>
    simp only [SV.ren00]
    split
    · rename_i d; cases (D.fp h : D w H μ _ _) with
      | fp h =>
        refine .fp ?_
        split
        · rename_i e
          rw [Iz e] at h
          obtain ⟨z, A, b, l, n, B⟩ := h
          exact ⟨z, A, b, f _ _ _ d l, n, B⟩
        · rename_i e
          rwa [J3 e] at h
    · exact .any
  | agg => exact .any
  | tup => exact .any
  | clo vs hl q =>
    simp only [SV.ren00]
    split
    · rename_i t
      have := List.isEmpty_iff.1 t
      subst this
      exact Cc
    · exact .any
  | int => exact .int
  | bool => exact .bool
  | con => exact .con
  | ub l n => exact .ub l n
  | any => exact .any
  | sl a b o m g C hx t E hl q => exact c rfl rfl
  | rel b o g hi F E hl q => exact c rfl rfl
  | mp r g F C hl q => exact c rfl rfl
theorem Ws(a:∀b,H' b->H b)(c:∀k j x,g k=some j->μ k=some x->μ' j=some x){s:SV}{v:Value}(h:D w H μ s v):D w H' μ' (s.ren0 g) v:=by
 unfold SV.ren0;split
 .cases h with
  |clo d hl e=>
   refine .clo d E9 (λi s v hs f=> ?_);simp only[Ih]at hs;obtain⟨l,m,rfl⟩:=hs;exact b5z a c (e i l v m f)
 .exact b5z a c h
theorem b1i(a:∀b,H' b->H b)(c:∀k j x,g k=some j->μ k=some x->μ' j=some x){s:SV}{v:Value}(h:D w H μ s v):D w H' μ' (s.ren1 g) v:=by
 unfold SV.ren1;split
 .cases h with
  |agg d hl e=>
   refine .agg d E9 (λi s v hs f=> ?_);simp only[Ih]at hs;obtain⟨l,m,rfl⟩:=hs;exact Ws a c (e i l v m f)
 .exact Ws a c h
theorem b1f(a:∀b,H' b->H b)(c:∀k j x,g k=some j->μ k=some x->μ' j=some x){s:SV}{v:Value}(h:D w H μ s v):D w H' μ' (s.ren2 g) v:=by
 unfold SV.ren2;split
 .cases h with
  |tup d hl e=>
   refine .tup d E9 (λi s v hs f=> ?_);simp only[Ih]at hs;obtain⟨l,m,rfl⟩:=hs;exact b1i a c (e i l v m f)
 .exact b1i a c h
theorem DK.ren(hH:∀b,H' b->H b)(t:∀k j x,g k=some j->μ k=some x->μ' j=some x){x:Value}{bl:Blk}(h:DK w H μ x bl):DK w H' μ' x (bl.ren g):=by
 have G:∀{s:SV} {v:Value},s.pure=true->D w H μ s v->D w H' μ' s v:=λI h=>HU hH h I;cases bl with
 |cells T cs=>
  obtain⟨b,J,rfl,d,hl,y,l⟩:=h;refine⟨b,J,rfl,d,E9,y,λi s v hs z=> ?_⟩;simp only[Ih]at hs;obtain⟨O,P,rfl⟩:=hs;exact Ws hH t (l i O v P z)
 |row T M n f c=>
  obtain⟨a,m,rfl,Q,A,R,hl,S⟩:=h;refine⟨a,m,rfl,Q,A,R,hl,?_⟩;rcases S with h|⟨b,o,J,U,rfl,d,V,y,l⟩
  .exact .inl h
  .exact .inr ⟨b,o,J,U,rfl,d,V,y,λi j s v N hs z=>G (Ja.1 (hl i N).2 s (J6 hs)) (l i j s v N hs z)⟩
 |map K ag L val=>
  obtain⟨r,g,rfl,A,hl,l⟩:=h;exact⟨r,g,rfl,A,hl,λq i s v C hs z=>G (Ja.1 (hl q C).2 s (J6 hs)) (l q i s v C hs z)⟩
 |fam T Ts n W F=>
  obtain⟨ps,qs,rfl,h,d⟩:=h;have B:=h.keep (H':=H') ⟨J9 _,λ_ _ _=>rfl,λb _=>hH b⟩ (λ_ _=>rfl);match W,B,d with
  |none,B,d=>exact⟨ps,qs,rfl,B,λi c e=>E3⟩
  |some (i,c),B,d=>
   simp only[Blk.ren];split
   .rename_i j E;refine⟨ps,qs,rfl,B,λi' c' e=> ?_⟩;cases e;obtain⟨p,X,Y⟩:=d i c rfl;exact⟨p,X,t _ _ _ E Y⟩
   .exact J5
 |pmap K k L BV=>
  simp only[Blk.ren];split
  .rename_i j E;obtain⟨⟨ps,qs,Z⟩,r,g,rfl,A,l⟩:=h;refine⟨⟨ps,qs,t _ _ _ E Z⟩,r,g,rfl,A,λq C=> ?_⟩;obtain⟨p,e,h⟩:=l q C;refine⟨p,e,?_⟩;cases h with
   |fp h=>
    simp only[Ke]at h;obtain⟨ps,qs,b,y,h2,h3⟩:=h;exact .fp (by simp only[Ke];exact⟨ps,qs,b,t _ _ _ E y,h2,h3⟩)
  .exact J5
 |rowh T M n f c i u=>exact OO.to (SV.ren0 g) (λ_ _=>rfl) (λs v I h=>G I h) (λs v h=>Ws hH t h) h
 |pool T M n l al ln ct=>
  obtain⟨ps,qs,rfl,h⟩:=h;exact D9
 |dead=>exact J5
end
def SV.refs0:SV->List Nat
 |.own k _|.osl k|.omp k|.oel k _ _ _|.fp _ k _ _=>[k]
 |_=>[]
def SV.refs1:SV->List Nat
 |.agg a=>a.flatMap SV.refs0
 |.clo _ a=>a.flatMap SV.refs0
 |s=>s.refs0
def Blk.refs:Blk->List Nat
 |.cells _ a=>a.flatMap SV.refs1
 |.pmap _ k _ _=>[k]
 |_=>[]
def YT:List Nat->List Nat->List Nat
 |a,[]=>a
 |a,k::r=>YT (if a.contains k then a else a++[k]) r
def close(own:List Blk):Nat->List Nat->List Nat
 |0,l=>l
 |n+1,l=>close own n (YT l (l.flatMap λk=>match own[k]? with|some b=>b.refs|none=>[]))
def OB(own:List Blk)(xs:List SV):List Nat:=close own 2 (YT [] (xs.flatMap SV.refs1))
def Qr(g:Nat->Blk->Blk):Nat->List Blk->List Blk
 |_,[]=>[]
 |k,b::r=>g k b::Qr g (k+1) r
theorem Xu{g:Nat->Blk->Blk}:∀{l:List Blk} {k i:Nat},(Qr g k l)[i]?=(l[i]?).map (g (k+i)):=by
 intro l;induction l with
 |nil=>intro k i;simp[Qr]
 |cons b r a=>
  intro k i;match i with
  |0=>simp[Qr]
  |i+1=>simp only[Qr,La,a];rw[show k+1+i=k+(i+1)from Dv]
theorem Tb{g:Nat->Blk->Blk}:∀{l:List Blk} {k:Nat},(Qr g k l).length=l.length:=by
 intro l;induction l with
 |nil=>intro k;rfl
 |cons b r a=>intro k;simp[Qr,a]
def Rs:Option Blk->Bool
 |some (.row _ _ _ _ _)=>true
 |some (.fam _ _ _ _ _)=>true
 |_=>false
def PZ(sel:List Nat)(n:Nat)(j:Nat):Option Nat:=some (if j<sel.length then sel.getD j 0 else n+(j-sel.length))
def RS(sel:List Nat)(own:List Blk)(r:HRes)(a:List Nat):List Blk:=
 Qr (λk b=>match BV k sel with|some j=>(r.own.getD j b).ren (PZ sel own.length)|none=>b.kill a) 0 own++(r.own.drop sel.length).map (Blk.ren (PZ sel own.length))
def Ml{α:Sort _}(n:Nat)(K:Nat->α):α:=
 match Nat.beq n 0 with|true=>K 0|false=>match Nat.beq n 1 with|true=>K 1|false=>match Nat.beq n 2 with|true=>K 2|false=>match Nat.beq n 3 with|true=>K 3|false=>match Nat.beq n 4 with|true=>K 4|false=>match Nat.beq n 5 with|true=>K 5|false=>match Nat.beq n 6 with|true=>K 6|false=>match Nat.beq n 7 with|true=>K 7|false=>match Nat.beq n 8 with|true=>K 8|false=>match Nat.beq n 9 with|true=>K 9|false=>match Nat.beq n 10 with|true=>K 10|false=>match Nat.beq n 11 with|true=>K 11|false=>match Nat.beq n 12 with|true=>K 12|false=>match Nat.beq n 13 with|true=>K 13|false=>match Nat.beq n 14 with|true=>K 14|false=>match Nat.beq n 15 with|true=>K 15|false=>match Nat.beq n 16 with|true=>K 16|false=>match Nat.beq n 17 with|true=>K 17|false=>match Nat.beq n 18 with|true=>K 18|false=>match Nat.beq n 19 with|true=>K 19|false=>match Nat.beq n 20 with|true=>K 20|false=>match Nat.beq n 21 with|true=>K 21|false=>match Nat.beq n 22 with|true=>K 22|false=>match Nat.beq n 23 with|true=>K 23|false=>K n
theorem b77{α:Sort _}(n:Nat)(K:Nat->α):Ml n K=K n:=by
 unfold Ml;repeat' split
 all_goals first
  |rfl
  |(rename_i h;rw[Nat.eq_of_beq_eq_true h])
def Vk{α:Sort _}:List Nat->(List Nat->α)->α
 | [],K=>K []
 |n::r,K=>Ml n λn=>Vk r λr=>K (n::r)
theorem b4w{α:Sort _}:∀(l:List Nat) (K:List Nat->α),Vk l K=K l
 | [],_=>rfl
 |n::r,K=>by simp only[Vk,b77,b4w r]
def SV.g0{α:Sort _}(s:SV)(K:SV->α):α:=match s with
 |.own k o=>Ml k λk=>Ml o λo=>K (.own k o)
 |.osl k=>Ml k λk=>K (.osl k)
 |.oel k a i o=>Ml k λk=>Ml o λo=>K (.oel k a i o)
 |.rel a n f i o=>Ml o λo=>K (.rel a n f i o)
 |.omp k=>Ml k λk=>K (.omp k)
 |.fp b k i o=>Ml k λk=>Ml o λo=>K (.fp b k i o)
 |s=>K s
theorem SV.g0_eq{α:Sort _}(s:SV)(K:SV->α):s.g0 K=K s:=by cases s<;>simp only[SV.g0,b77]
def gL{α:Sort _}:List SV->(List SV->α)->α
 | [],K=>K []
 |s::r,K=>s.g0 λs=>gL r λr=>K (s::r)
theorem f5u{α:Sort _}:∀(l:List SV) (K:List SV->α),gL l K=K l
 | [],_=>rfl
 |s::r,K=>by simp only[gL,SV.g0_eq,f5u r]
def SV.g1{α:Sort _}(s:SV)(K:SV->α):α:=match s with
 |.agg a=>gL a λa=>K (.agg a)
 |.clo f a=>gL a λa=>K (.clo f a)
 |s=>s.g0 K
theorem SV.g1_eq{α:Sort _}(s:SV)(K:SV->α):s.g1 K=K s:=by cases s<;>simp only[SV.g1,f5u,SV.g0_eq]
def XW{α:Sort _}:List SV->(List SV->α)->α
 | [],K=>K []
 |s::r,K=>s.g1 λs=>XW r λr=>K (s::r)
theorem f45{α:Sort _}:∀(l:List SV) (K:List SV->α),XW l K=K l
 | [],_=>rfl
 |s::r,K=>by simp only[XW,SV.g1_eq,f45 r]
def gBlk{α:Sort _}(b:Blk)(K:Blk->α):α:=match b with
 |.cells T d=>gL d λd=>K (.cells T d)
 |.row T a n f c=>K (.row T a n f c)
 |.map T e h v=>K (.map T e h v)
 |.fam T g n j F=>K (.fam T g n j F)
 |.pmap T k h v=>Ml k λk=>K (.pmap T k h v)
 |.rowh T a n f c i u=>gL u λu=>K (.rowh T a n f c i u)
 |.pool T a n l m o p=>K (.pool T a n l m o p)
 |.dead=>K .dead
theorem f8c{α:Sort _}(b:Blk)(K:Blk->α):gBlk b K=K b:=by cases b<;>simp only[gBlk,f5u,b77]
def memN:List Nat->Nat->Bool
 | [],_=>false
 |x::r,n=>match Nat.beq x n with
  |true=>true
  |false=>memN r n
theorem d2t:∀(l:List Nat) (n:Nat),memN l n=l.contains n
 | [],_=>rfl
 |x::r,n=>by
  simp only[memN,d2t r,List.contains_cons];split
  .rename_i h;simp[Nat.eq_of_beq_eq_true h]
  .rename_i h;have:¬n=x:=λe=>by rw[e,Nat.beq_refl]at h;cases h
   simp[this]
def WH{α:Sort _}:List Nat->List Nat->(List Nat->α)->α
 |a,[],K=>K a
 |a,k::r,K=>Ml k λk=>match memN a k with
  |true=>WH a r K
  |false=>Vk (a++[k]) λa=>WH a r K
theorem c01{α:Sort _}:∀(l a:List Nat) (K:List Nat->α),WH a l K=K (YT a l)
 | [],_,_=>rfl
 |k::r,a,K=>by
  simp only[WH,b77,b4w,YT,d2t];split
  .rename_i h;rw[Iz h];exact c01 r _ K
  .rename_i h;rw[J3 (by rw[h];exact Bool.false_ne_true)];exact c01 r _ K
def c6p{α:Sort _}(own:List Blk):Nat->List Nat->(List Nat->α)->α
 |0,l,K=>K l
 |n+1,l,K=>WH l (l.flatMap λk=>match own[k]? with|some b=>b.refs|none=>[]) λl=>c6p own n l K
theorem c1u{α:Sort _}{own:List Blk}:∀(n:Nat) (l:List Nat) (K:List Nat->α),c6p own n l K=K (close own n l)
 |0,_,_=>rfl
 |n+1,l,K=>by simp only[c6p,c01,close,c1u n]
def selF{α:Sort _}(own:List Blk)(xs:List SV)(K:List Nat->α):α:=WH [] (xs.flatMap SV.refs1) λl=>c6p own 2 l K
theorem g0g{α:Sort _}(own:List Blk)(xs:List SV)(K:List Nat->α):selF own xs K=K (OB own xs):=by simp only[selF,c01,c1u,OB]
def Xy{β:Type _}(own:List Blk)(g:Nat->Option Nat):List Nat->(List Blk->Option β)->Option β
 | [],K=>K []
 |k::r,K=>match own[k]? with
  |some b=>gBlk (b.ren g) λb=>Xy own g r λa=>K (b::a)
  |none=>none
theorem c88{β:Type _}{own:List Blk}{g:Nat->Option Nat}:∀(l:List Nat) (K:List Blk->Option β),Xy own g l K=(l.mapM λk=>(own[k]?).map (Blk.ren g)).bind K
 | [],K=>by simp[Xy]
 |k::r,K=>by
  simp only[Xy,f8c];split
  .rename_i b a;rw[c88 r];simp[a,Option.bind_assoc]
  .rename_i a;simp[a]
def YB{β:Type _}(ρ:Operand->Option SV):List Operand->(List SV->Option β)->Option β
 | [],K=>K []
 |x::r,K=>match ρ x with
  |some s=>s.g1 λs=>YB ρ r λa=>K (s::a)
  |none=>none
theorem c7f{β:Type _}{ρ:Operand->Option SV}:∀(l:List Operand) (K:List SV->Option β),YB ρ l K=(l.mapM ρ).bind K
 | [],K=>by simp[YB]
 |x::r,K=>by
  simp only[YB,SV.g1_eq];split
  .rename_i s hs;rw[c7f r];simp[hs,Option.bind_assoc]
  .rename_i hs;simp[hs]
def Xj(E:Env)(own:List Blk)(ρ:Operand->Option SV)(g:Op):Option (Prop×SV×List Blk×List Nat):=
 match g with
 |.call c=>match c.callee with
  |.value f=>match ρ f with
   |some (.clo e a)=>(E.Hc e).bind λh=>(c.args.toList.mapM ρ).bind λd=>
    (((OB own (d++a)).mapM λk=>(own[k]?).map (Blk.ren λk=>BV k (OB own (d++a))))).bind λb=>
      (h ((d++a).map (SV.ren1 λk=>BV k (OB own (d++a)))) b).bind λr=>
        if Rn (OB own (d++a))&&decide (b.length<=r.own.length)&&r.chg.all (λj=>Rs b[j]?&& !E.ak ((OB own (d++a)).getD j 0))then
         some (r.pre,r.res.ren2 (PZ (OB own (d++a)) own.length),RS (OB own (d++a)) own r (r.chg.map λj=>(OB own (d++a)).getD j 0),r.chg.map λj=>(OB own (d++a)).getD j 0)
        else none
   |_=>none
  |_=>none
 |_=>none
def b92(E:Env)(own:List Blk)(ρ:Operand->Option SV)(g:Op):Option (Prop×SV×List Blk×List Nat):=
 match g with
 |.call c=>match c.callee with
  |.value f=>match ρ f with
   |some (.clo d b)=>match E.Hc d with
    |some h=>YB ρ c.args.toList λi=>XW (i++b) λe=>selF own e λsel=>
     Xy own (λk=>BV k sel) sel λa=>XW (e.map (SV.ren1 λk=>BV k sel)) λl=>match h l a with
      |some r=>match Rn sel&&decide (a.length<=r.own.length)&&r.chg.all (λj=>Rs a[j]?&& !E.ak (sel.getD j 0))with
       |true=>some (r.pre,r.res.ren2 (PZ sel own.length),RS sel own r (r.chg.map λj=>sel.getD j 0),r.chg.map λj=>sel.getD j 0)
       |false=>none
      |none=>none
    |none=>none
   |_=>none
  |_=>none
 |_=>none
theorem b8n(E:Env)(own:List Blk)(ρ:Operand->Option SV)(e:Op):b92 E own ρ e=Xj E own ρ e:=by
 unfold b92 Xj;split
 .rename_i c;split
  .rename_i f;split
   .rename_i b a hf;cases hh:E.Hc b with
    |none=>simp
    |some h=>
     simp only[c7f,f45,g0g,c88,Lq];congr 1;funext xs;congr 1;funext lown;cases h (List.map (SV.ren1 λk=>BV k (OB own (xs++a))) (xs++a)) lown with
     |none=>simp
     |some r=>
      simp only[Lq];split
      .rename_i d;rw[Iz d]
      .rename_i d;rw[J3 (by rw[d];exact Bool.false_ne_true)]
   .rfl
  .rfl
 .rfl
section
variable{E:Env}{B0:Nat}{X A:Nat->Prop}{w0:World}{nt:Nat}{st:St}{a:Act}{w:World}{μ:Mu}
theorem b10:∀{l:List Nat},Rn l=true->l.Nodup
 | [],_=>N8
 |x::r,h=>by simp only[Rn,Iv,N6,L3]at h;exact Kw.2 ⟨h.1,b10 h.2⟩
theorem c2i(hC:GR E)(h:SD E B0 X A w0 nt st a w μ){o:Oper}{pre:Prop}{s:SV}{own':List Blk}{M:List Nat}(G:Xj E st.own (CK E st.ρ none) o.op=some (pre,s,own',M))(hp:pre)
 {K:Act->World->Prop} {Q:Exit->Act->World->Prop} (hK:∀v H μ',Own B0 X A H μ' own'->Fr B0 X w H->Keeps' M w H (held A μ) (held A μ') μ μ'->(∀k,own'.length<=k->μ' k=none)->(∀k x,E.an k=some x->μ' k=some x)->D H (held A μ') μ' s v->K (a.put o.dst v) H):o.wp E.P a w K Q:=by
 have hρ:=h.opds (g:=none) (λq b e=>E3);unfold Xj at G;split at G;rotate_left
 .cases G
 rename_i c cy;split at G;rotate_left
 .cases G
 rename_i f hf;split at G;rotate_left
 .cases G
 rename_i fid N hρf;simp only[J8]at G;obtain⟨l,Z8,xs,ku,I,tz,r,hr,G⟩:=G;generalize hsel:OB st.own (xs++N)=sel at G tz hr;split at G;rotate_left
 .cases G
 rename_i du;simp only[Ij]at du;obtain⟨⟨nj,bc⟩,Q1⟩:=du;simp only[Id]at G;obtain⟨rfl,rfl,rfl,rfl⟩:=G;have np:=b10 nj;obtain⟨m1,m2⟩:=OI tz;have fw:=hρ _ _ hρf;generalize t8:a.eval f=vf at fw;obtain⟨⟨fn,h1,h2,h3⟩,hS⟩:=hC.2.2 fid l Z8;cases fw with
 |clo cvs fu nh=>
 have hD:=c66 (Tw (a:=a) hρ ku) (⟨fu,nh⟩:DL w (held A μ) μ N cvs);have hm:c.args.map a.eval=(c.args.toList.map a.eval).toArray:=F4;have bp:(execOp a.eval o).run E.P w=.ok (.enter fid ((c.args.toList.map a.eval)++cvs).toArray) w:=by simp only[execOp,cy,resolve,hf,t8,Deferred.ofValue,hm,Ie,invoke,callFunc,run_program,h1,h2,Ik,h3];simp
 let u:Mu:=λj=>(sel[j]?).bind μ
 let Z:Nat->Prop:=λb=>A b\/∃k x,k∉sel/\μ k=some x/\CN x b
 have z:∀{j x},u j=some x->∃k,sel[j]?=some k/\μ k=some x:=λd=>by simpa[u,J8]using d
 have bb:∀b,held Z u b↔held A μ b:=by
  intro b;constructor
  .rintro((C|⟨k,x,_,l,hx⟩)|⟨j,x,d,hx⟩)
   .exact .inl C
   .exact .inr ⟨k,x,l,hx⟩
   .obtain⟨k,_,l⟩:=z d;exact .inr ⟨k,x,l,hx⟩
  .rintro(C|⟨k,x,l,hx⟩)
   .exact .inl (.inl C)
   .by_cases wd:k∈sel
    .obtain⟨j,d,e⟩:=Jw.1 wd;exact .inr ⟨j,x,by simp[u,Iy d,e,l],hx⟩
    .exact .inl (.inr ⟨k,x,wd,l,hx⟩)
 have jz:∀k j x,BV k sel=some j->μ k=some x->u j=some x:=λk j x d l=>by have:=QR d;simp[u,this,l]
 have Q2:∀b,Z b->b<w.heap.size:=by
  rintro b (C|⟨k,x,_,l,hx⟩)
  .exact h.own.bnd b C
  .exact(h.own.rng k x b l hx).1
 have Z9:Own 0 (λ_=>True) Z w u I:=by
  refine⟨λj x d=> ?_,λj j' x x' b d bm hx cm=> ?_,λj x b d hx=> ?_,Q2⟩
  .obtain⟨k,l,hx⟩:=z d;obtain⟨bl,e,ba⟩:=h.own.blk k x hx;obtain⟨y,Y,J⟩:=m2 j k l;rw[e]at J;simp only[Kb,Ju]at J;subst J;exact⟨_,Y,ba.ren (λb C=>(bb b).1 C) jz⟩
  .obtain⟨k,l,U⟩:=z d;obtain⟨V,L,we⟩:=z bm;have:=h.own.inj k V x x' b U we hx cm;subst this;have e1:=b1b np l;have J:=b1b np L;rw[e1]at J;cases J;rfl
  .obtain⟨k,l,U⟩:=z d;obtain⟨r1,r2,W⟩:=h.own.rng k x b U hx;refine⟨r1,?_,.inl (Je _)⟩;rintro(C|⟨V,x',wd,L,cm⟩)
   .exact r2 C
   .have:=h.own.inj k V x x' b U L hx cm;subst this;exact wd (J6 l)
 have Za:DL w (held Z u) u ((xs++N).map (SV.ren1 λk=>BV k sel)) ((c.args.toList.map a.eval)++cvs):=by refine⟨by simpa using hD.1,λi s v hs hv=> ?_⟩;simp only[Ih]at hs;obtain⟨s0,bu,rfl⟩:=hs;exact b1i (λb C=>(bb b).1 C) jz (hD.2 i s0 v bu hv)
 have hfreshc:∀j,I.length<=j->u j=none:=λj d=>by have:sel[j]?=none:=L9 Dv;simp[u,this]
 have rc:∀g t,E.glob g=some t->t.pure=true/\D w (held Z u) BQ t (.pointer (some ⟨g,0,none⟩)):=λg t hg=>
  ⟨(h.glo g t hg).1,GS (λb C=>(bb b).1 C) (h.glo g t hg).2 (h.glo g t hg).1⟩
 unfold Oper.wp;rw[bp];refine(hS Z w _ _ I u r Q2 rc Z9 hfreshc Za hr hp).mono ?_;rintro e H ⟨v,μ',rfl,gu,t9,gc,hsame,O⟩;suffices h5:∃m:Mu,Own B0 X A H m (RS sel st.own r (r.chg.map λj=>sel.getD j 0))/\Fr B0 X w H/\Keeps' (r.chg.map λj=>sel.getD j 0) w H (held A μ) (held A m) μ m/\(∀k,(RS sel st.own r (r.chg.map λj=>sel.getD j 0)).length<=k->m k=none)/\(∀k x,E.an k=some x->m k=some x)/\D H (held A m) m (r.res.ren2 (PZ sel st.own.length)) v by
  obtain⟨m,q1,q2,q3,q4,q5,q6⟩:=h5;exact hK v H m q1 q2 q3 q4 q5 q6
 refine⟨λk=>match BV k sel with|some j=>μ' j|none=>if st.own.length<=k then μ' (k-st.own.length+sel.length)else μ k,?_⟩;generalize R:(λk=>match BV k sel with|some j=>μ' j|none=>if st.own.length<=k then μ' (k-st.own.length+sel.length)else μ k:Mu)=m;have hsel_lt:∀{k},k∈sel->k<st.own.length:=λl=>by obtain⟨j,d⟩:=Kr.1 l;obtain⟨y,_,J⟩:=m2 j _ d;simp only[J7]at J;obtain⟨b,C,_⟩:=J;exact(J4.1 C).1
 have c1:∀{k j},BV k sel=some j->m k=μ' j:=λd=>by rw[<-R];simp[d]
 have c2:∀{k},st.own.length<=k->m k=μ' (k-st.own.length+sel.length):=λ{k} l=>by
  have:BV k sel=none:=by
   cases e:BV k sel with
   |none=>rfl
   |some j=>have:=hsel_lt (J6 (QR e));omega
  rw[<-R];simp[this,l]
 have c3:∀{k},BV k sel=none->k<st.own.length->m k=μ k:=λ{k} h1 h2=>by rw[<-R];simp[h1,show¬st.own.length<=k from Dv]
 have kw:∀k j x,PZ sel st.own.length k=some j->μ' k=some x->m j=some x:=by
  intro k j x d hx;simp only[PZ,Ju]at d;split at d
  .rename_i b6;have:sel[k]?=some j:=by rw[<-d];simp[Iy b6]
   rw[c1 (b1b np this)];exact hx
  .rename_i s9;rw[c2 Dv,<-d,show st.own.length+(k-sel.length)-st.own.length+sel.length=k from Dv];exact hx
 have bh:∀{k x},m k=some x->(∃j,μ' j=some x/\(BV k sel=some j\/(BV k sel=none/\st.own.length<=k/\j=k-st.own.length+sel.length)))\/(BV k sel=none/\k<st.own.length/\μ k=some x):=by
  intro k x hx;cases B:BV k sel with
  |some j=>exact .inl ⟨j,by rw[<-c1 B];exact hx,.inl rfl⟩
  |none=>
   by_cases l:st.own.length<=k
   .exact .inl ⟨_,by rw[<-c2 l];exact hx,.inr ⟨rfl,l,rfl⟩⟩
   .exact .inr ⟨rfl,Dv,by rw[<-c3 B Dv];exact hx⟩
 have hX:∀{j x b},μ' j=some x->CN x b->b<H.heap.size/\¬Z b/\(w.heap.size<=b\/∃k y,k∈sel/\μ k=some y/\CN y b):=by
  intro j x b d C;obtain⟨r1,r2,W⟩:=gu.rng j x b d C;refine⟨r1,r2,?_⟩;rcases W with W|⟨i,y,B,Y⟩
  .exact .inl W
  .obtain⟨k,l,U⟩:=z B;exact .inr ⟨k,y,J6 l,U,Y⟩
 have hless:∀b,b<w.heap.size->held A m b->held A μ b:=by
  rintro b C (hA|⟨k,x,l,hx⟩)
  .exact .inl hA
  .rcases bh l with⟨j,d,_⟩|⟨_,_,L⟩
   .rcases(hX d hx).2.2 with h'|⟨V,y,_,Y,pw⟩
    .omega
    .exact .inr ⟨V,y,Y,pw⟩
   .exact .inr ⟨k,x,L,hx⟩
 have jg:∀b,held A m b->held Z μ' b:=by
  rintro b (hA|⟨k,x,l,hx⟩)
  .exact .inl (.inl hA)
  .rcases bh l with⟨j,d,_⟩|⟨B,_,L⟩
   .exact .inr ⟨j,x,d,hx⟩
   .exact .inl (.inr ⟨k,x,XO B,L,hx⟩)
 have bv:Keeps' (r.chg.map λj=>sel.getD j 0) w H (held A μ) (held A m) μ m:=by
  refine⟨O.size,λb C hh=>O.block b C (λ⟨j,x,d,hx⟩=> ?_),hless,λk x l hx=> ?_,λk x l hx=> ?_⟩
  .obtain⟨k,_,U⟩:=z d;exact hh (.inr ⟨k,x,U,hx⟩)
  .have b6:k<st.own.length:=by
    rcases N9 k st.own.length with h'|h'
    .exact h'
    .rw[h.fresh k h']at hx;cases hx
   cases B:BV k sel with
   |none=>rw[c3 B b6];exact hx
   |some j=>
    have d:=QR B;have ji:j<sel.length:=(J4.1 d).1;have py:r.chg.contains j=false:=by
     cases hc:r.chg.contains j with
     |false=>rfl
     |true=>
      exfalso;apply l;simp only[Jp];refine⟨j,Ep,?_⟩;simp[d]
    rw[c1 B];exact hsame j x Dv py (by simp[u,d,hx])
  .simp only[Jp]at l;obtain⟨j,d,rfl⟩:=l;have zg:=Ja.1 Q1 j d;simp only[Jt]at zg;obtain⟨S,_⟩:=zg;obtain⟨bl,e,ba⟩:=h.own.blk _ _ hx;cases Zb:sel[j]? with
   |none=>
    have:I[j]?=none:=L9 (by have:=List.getElem?_eq_none_iff.1 Zb;omega);rw[this]at S;cases S
   |some k0=>
    rw[show sel.getD j 0=k0 by simp[Zb]]at e;obtain⟨y,Y,J⟩:=m2 j k0 Zb;rw[e]at J;simp only[Kb,Ju]at J;subst J;rw[Y]at S;cases bl with
    |row T sz n f c=>
     obtain⟨a',m',e1,_⟩:=ba;exact .inl ⟨_,_,_,e1⟩
    |fam T Ts n bt F=>
     obtain⟨ps,qs,e1,_,_⟩:=ba;exact .inr ⟨ps,qs,e1⟩
    |cells=>simp[Rs,Blk.ren]at S
    |map=>simp[Rs,Blk.ren]at S
    |pmap K k has BV=>
     simp only[Blk.ren]at S;split at S<;>simp[Rs]at S
    |rowh=>simp[Rs,Blk.ren]at S
    |pool=>simp[Rs,Blk.ren]at S
    |dead=>simp[Rs,Blk.ren]at S
 have Z3:Fr B0 X w H:=by
  refine⟨O.os,O.tape,O.output,O.drawn,O.size,λi B hx=>O.block i (K0 B h.base) (λ⟨j,x,d,V1⟩=> ?_)⟩;obtain⟨k,_,U⟩:=z d;rcases(h.own.rng k x i U V1).2.2 with h'|h'
  .omega
  .exact hx h'
 refine⟨⟨λk x l=> ?_,λk V x x' b l L hx cm=> ?_,λk x b l hx=> ?_,λb C=>K0 (h.own.bnd b C) O.size⟩,Z3,bv,λk l=> ?_,λk x hx=> ?_,b1f jg kw gc⟩
 .rcases bh l with⟨j,d,V2⟩|⟨B,b6,L⟩
  .obtain⟨bl,e,ba⟩:=gu.blk j x d;refine⟨bl.ren (PZ sel st.own.length),?_,ba.ren jg kw⟩;rcases V2 with B|⟨B,s9,rfl⟩
   .have wd:=hsel_lt (J6 (QR B));unfold RS;rw[Jc (by rw[Tb];exact wd),Xu,Iy wd];simp[B,e]
   .unfold RS;rw[Jm (by rw[Tb];exact s9),Tb,Jr,List.getElem?_drop,Nat.add_comm,e];rfl
  .obtain⟨bl,e,ba⟩:=h.own.blk k x L;refine⟨bl.kill _,?_,ba.change bv (λb C=> ?_)⟩
   .unfold RS;rw[Jc (by rw[Tb];exact b6),Xu,e];simp[B]
   .refine O.block b (h.own.rng k x b L C).1 (λ⟨j,y,d,pw⟩=> ?_);obtain⟨k2,f8,hkx2⟩:=z d;have:=h.own.inj k k2 x y b L hkx2 C pw;subst this;exact XO B (J6 f8)
 .rcases bh l with⟨j,d,V2⟩|⟨B,b6,gy⟩<;>rcases bh L with⟨j',bm,hj2'⟩|⟨b8,fj,Q3⟩
  .have:=gu.inj j j' x x' b d bm hx cm;subst this;rcases V2 with B|⟨B,s9,e⟩<;>rcases hj2' with b8|⟨b8,hge',e'⟩
   .have a1:=QR B;have a2:=QR b8;rw[a1]at a2;cases a2;rfl
   .have:=(J4.1 (QR B)).1;omega
   .have:=(J4.1 (QR b8)).1;omega
   .omega
  .exact((hX d hx).2.1 (.inr ⟨V,x',XO b8,Q3,cm⟩)).elim
  .exact((hX bm cm).2.1 (.inr ⟨k,x,XO B,gy,hx⟩)).elim
  .exact h.own.inj k V x x' b gy Q3 hx cm
 .rcases bh l with⟨j,d,V2⟩|⟨B,b6,gy⟩
  .obtain⟨r1,r2,W⟩:=hX d hx;refine⟨r1,λhA=>r2 (.inl hA),?_⟩;rcases W with W|⟨V,y,_,Y,pw⟩
   .exact .inl (Kq h.base W)
   .exact(h.own.rng V y b Y pw).2.2
  .obtain⟨r1,r2,W⟩:=h.own.rng k x b gy hx;exact⟨K0 r1 O.size,r2,W⟩
 .have f8:(RS sel st.own r (r.chg.map λj=>sel.getD j 0)).length=st.own.length+(r.own.length-sel.length):=by
   unfold RS;simp[Tb]
  rw[f8]at l;rw[c2 Dv];exact t9 _ Dv
 .have hx0:=h.anc k x hx;have qf:=Env.an_ak hx;refine bv.own k x (λl=> ?_) hx0;simp only[Jp]at l;obtain⟨j,d,rfl⟩:=l;have zg:=Ja.1 Q1 j d;simp only[Iv]at zg;rw[qf]at zg;cases zg.2
theorem d0s(g:GR E)(h:SD E B0 X A w0 nt st a w μ){o:Oper}{c:Prop}{s:SV}{own':List Blk}{b:List Nat}(i:Xj E st.own (CK E st.ρ none) o.op=some (c,s,own',b))(j:c)(k:JS nt o.dst=true)
 {K:Act->World->Prop} {Q:Exit->Act->World->Prop} (l:∀e d μ',SD E B0 X A w0 nt ⟨KO o.dst none s (UN b st.ρ),own'⟩ e d μ'->K e d):o.wp E.P a w K Q:=
 c2i g h i j (λ_ d μ' m n f p q r=>l _ d μ' (h.put m n (b1s f h.glo) (h.env.change f) p q k r))
end
section
variable{w:World}{H H':Nat->Prop}{μ μ':Mu}
theorem D.shift(A:∀b,H' b->H b)(f:∀j x,μ j=some x->(∀n z,x≠BR n z)->μ' j=some x)
 (E:∀j n z,μ j=some (BR n z)->∃k l,μ' j=some (BR k l)/\∀(i:Nat) (p:Value),n[i]?=some p->k[i]?=some p) {s:SV} {v:Value} (h:D w H μ s v):D w H' μ' s v:=by
 induction h with
 |int=>exact .int
 |bool=>exact .bool
 |con=>exact .con
 |own h=>exact .own (f _ _ h (λ_ _ e=>E3))
 |osl h=>exact .osl (f _ _ h (λ_ _ e=>E3))
 |oel h=>exact .oel (f _ _ h (λ_ _ e=>E3))
 |omp h=>exact .omp (f _ _ h (λ_ _ e=>E3))
 |mp r g q B c t d=>exact .mp r g (λu=>q (A _ u)) B c d
 |sl a b o m g B hx F C c t d=>
  exact .sl a b o m g B hx F (λG=>by obtain⟨e,q,I⟩:=C G;exact⟨e,λu=>q (A _ u),I⟩) c d
 |rel b o g J q C c t d=>exact .rel b o g J (λu=>q (A _ u)) C c d
 |agg y c t d=>exact .agg y c d
 |tup y c t d=>exact .tup y c d
 |clo y c t d=>exact .clo y c d
 |fp h=>exact D.fp_mk (λn z e=>by obtain⟨k,l,K,L⟩:=E _ _ _ e;exact⟨k,l,K,λp=>L _ p⟩) h
 |ub M N=>exact .ub M N
 |any=>exact .any
theorem RV.shift(a:∀s v,D w H μ s v->D w H' μ' s v){x:Value}{T:TypeId}{cs:List SV}(h:RV w H μ x T cs):RV w H' μ' x T cs:=by obtain⟨b,c,rfl,d,e,f,g⟩:=h;exact⟨b,c,rfl,d,e,f,λi s v hs j=>a _ _ (g i s v hs j)⟩
theorem JI.shift(g:∀s v,s.pure=true->D w H μ s v->D w H' μ' s v){x:Value}{T:TypeId}{sz n:Nat}{f:Nat->List SV}{c:Option Nat}(h:JI w H μ x T sz n f c):JI w H' μ' x T sz n f c:=by
 obtain⟨a,m,rfl,k,l,p,d,q⟩:=h;refine⟨a,m,rfl,k,l,p,d,?_⟩;rcases q with h|⟨b,o,r,t,rfl,u,y,z,A⟩
 .exact .inl h
 .exact .inr ⟨b,o,r,t,rfl,u,y,z,λi j s v e hs B=>g _ _ (Ja.1 (d i e).2 s (J6 hs)) (A i j s v e hs B)⟩
theorem FamOK.less(e:∀b,H' b->H b){T:TypeId}{a:List (TypeId×Nat)}{n:Nat}{c:Option Nat}{F:Nat->Mem}{ps:List Value}{d:List (List Value)}(h:FamOK w H T a n c F ps d):FamOK w H' T a n c F ps d:=
 h.keep ⟨J9 _,λ_ _ _=>rfl,λb _=>e b⟩ (λ_ _=>rfl)
theorem DK.shift(hH:∀b,H' b->H b)(m:∀j x,μ j=some x->(∀ps qs,x≠BR ps qs)->μ' j=some x)
 (A:∀j ps qs,μ j=some (BR ps qs)->∃a d,μ' j=some (BR a d)/\∀(i:Nat) (p:Value),ps[i]?=some p->a[i]?=some p) {x:Value} {bl:Blk} (h:DK w H μ x bl):DK w H' μ' x bl:=by
 have l:∀s v,D w H μ s v->D w H' μ' s v:=λs v h=>h.shift hH m A;cases bl with
 |cells T cs=>exact RV.shift l h
 |row T B n f c=>exact JI.shift (λs v _=>l s v) h
 |map K ag o val=>
  obtain⟨r,g,rfl,t,E,y⟩:=h;exact⟨r,g,rfl,t,E,λq i s v z hs G=>l _ _ (y q i s v z hs G)⟩
 |fam T Ts n bt F=>
  obtain⟨ps,qs,rfl,h,I⟩:=h;refine⟨ps,qs,rfl,h.less hH,λi c e=> ?_⟩;obtain⟨p,e1,J⟩:=I i c e;have L:i<n:=Gv;obtain⟨b,us,C,_⟩:=h.mem i L;rw[e1]at C;cases C;exact⟨_,e1,m _ _ J (λ_ _ e=>E3)⟩
 |pmap K k o BV=>
  obtain⟨⟨ps,qs,M⟩,r,g,rfl,t,y⟩:=h;obtain⟨a,d,N,_⟩:=A _ _ _ M;exact⟨⟨a,d,N⟩,r,g,rfl,t,λq z=>by obtain⟨p,e,h⟩:=y q z;exact⟨p,e,l _ _ h⟩⟩
 |rowh T B n f c i u=>
  have:=OO.to id (λ_ _=>rfl) (λs v _ h=>l s v h) l h;rwa[List.map_id]at this
 |pool T B n l al ln ct=>
  obtain⟨ps,qs,rfl,h⟩:=h;exact D9
 |dead=>exact J5
end
section
theorem EP.shift{w:World}{H H':Nat->Prop}{μ μ':Mu}{tmps:Array Value}{ρ:List Entry}(a:∀s v,D w H μ s v->D w H' μ' s v)(h:EP w H μ tmps ρ):EP w H' μ' tmps ρ:=by
 intro t e b;have:=h t e b;unfold CZ at this⊢;split at this
 .exact a _ _ this
 .exact⟨λc=>a _ _ (this.1 c),this.2⟩
end
def EJ(c m k:Nat):Bool:=decide (c<=k)&&decide (k<=c+m)
def SV.ment0(c m:Nat):SV->Bool
 |.own k _|.osl k|.omp k|.oel k _ _ _=>EJ c m k
 |.fp _ k _ _=>EJ c m k
 |.agg _|.tup _=>true
 |.clo _ a=> !a.isEmpty
 |_=>false
def SV.uf0(c m:Nat)(s:SV):SV:=match s with
 |.clo f a=>if a.all (λs=> !s.ment0 c m)then .clo f a else .any
 |s=>if s.ment0 c m then .any else s
def SV.uf1(c m:Nat):SV->SV
 |.agg a=>.agg (a.map (SV.uf0 c m))
 |s=>s.uf0 c m
def SV.uf2(c m:Nat):SV->SV
 |.tup a=>.tup (a.map (SV.uf1 c m))
 |s=>s.uf1 c m
def Blk.uf(c m:Nat):Blk->Blk
 |.cells T e=>.cells T (e.map (SV.uf0 c m))
 |.pmap K k a BV=>if EJ c m k then .dead else .pmap K k a BV
 |.fam T g n (some (i,d)) F=>if EJ c m d then .dead else .fam T g n (some (i,d)) F
 |.rowh T h n f j i u=>.rowh T h n f j i (u.map (SV.uf0 c m))
 |b=>b
structure Drop (c m:Nat) (H H':Nat->Prop) (μ μ':Mu):Prop where
 less:∀b,H' b->H b
 own:∀j x,EJ c m j=false->μ j=some x->(∀ps qs,x≠BR ps qs)->μ' j=some x
 fam:∀j ps qs,EJ c m j=false->μ j=some (BR ps qs)->∃ps' qs',μ' j=some (BR ps' qs')/\∀(i:Nat) (p:Value),ps[i]?=some p->ps'[i]?=some p
section
variable{w:World}{H H':Nat->Prop}{μ μ':Mu}{c m:Nat}
theorem Xh(d:Drop c m H H' μ μ'){s:SV}{v:Value}(h:D w H μ s v)(hs:s.ment0 c m=false):D w H' μ' s v:=by
 cases h with
 |own h=>exact .own (d.own _ _ hs h (λ_ _ e=>E3))
 |osl h=>exact .osl (d.own _ _ hs h (λ_ _ e=>E3))
 |oel h=>exact .oel (d.own _ _ hs h (λ_ _ e=>E3))
 |omp h=>exact .omp (d.own _ _ hs h (λ_ _ e=>E3))
 |fp h=>exact D.fp_mk (λps qs e=>by obtain⟨j,k,t,u⟩:=d.fam _ _ _ hs e;exact⟨j,k,t,λp=>u _ p⟩) h
 |agg vs hl f=>simp[SV.ment0]at hs
 |tup vs hl f=>simp[SV.ment0]at hs
 |clo vs hl f=>
  simp only[SV.ment0,Bool.not_eq_false',List.isEmpty_iff]at hs;subst hs;exact Cc
 |int=>exact .int
 |bool=>exact .bool
 |con=>exact .con
 |ub x y=>exact .ub x y
 |any=>exact .any
 |sl a b o m g l hx z n hl f=>exact HU d.less (.sl a b o m g l hx z n hl f) rfl
 |rel b o g A q n hl f=>exact HU d.less (.rel b o g A q n hl f) rfl
 |mp r g q l hl f=>exact HU d.less (.mp r g q l hl f) rfl
theorem XX(a:Drop c m H H' μ μ'){s:SV}{v:Value}(h:D w H μ s v):D w H' μ' (s.uf0 c m) v:=by
 unfold SV.uf0;split
 .split
  .rename_i b;cases h with
   |clo d e f=>
    exact .clo d e (λi s v hs g=>Xh a (f i s v hs g) (by simpa using Ja.1 b s (J6 hs)))
  .exact .any
 .split
  .exact .any
  .rename_i hs;exact Xh a h Fp
theorem c8a(a:Drop c m H H' μ μ'){s:SV}{v:Value}(h:D w H μ s v):D w H' μ' (s.uf1 c m) v:=by
 unfold SV.uf1;split
 .cases h with
  |agg b hl d=>
   refine .agg b E9 (λi s v hs e=> ?_);simp only[Ih]at hs;obtain⟨f,g,rfl⟩:=hs;exact XX a (d i f v g e)
 .exact XX a h
theorem c64(a:Drop c m H H' μ μ'){s:SV}{v:Value}(h:D w H μ s v):D w H' μ' (s.uf2 c m) v:=by
 unfold SV.uf2;split
 .cases h with
  |tup b hl d=>
   refine .tup b E9 (λi s v hs e=> ?_);simp only[Ih]at hs;obtain⟨f,g,rfl⟩:=hs;exact c8a a (d i f v g e)
 .exact c8a a h
theorem DK.drop(a:Drop c m H H' μ μ'){x:Value}{bl:Blk}(h:DK w H μ x bl):DK w H' μ' x (bl.uf c m):=by
 cases bl with
 |cells T cs=>
  obtain⟨b,M,rfl,j,hl,N,I⟩:=h;refine⟨b,M,rfl,j,E9,N,λi s v hs y=> ?_⟩;simp only[Ih]at hs;obtain⟨O,P,rfl⟩:=hs;exact XX a (I i O v P y)
 |row T J n f c=>exact JI.shift (λs v z hs=>HU a.less hs z) h
 |map K ag A val=>
  obtain⟨r,g,rfl,B,hl,C⟩:=h;exact⟨r,g,rfl,B,hl,λq i s v o hs y=>HU a.less (C q i s v o hs y) (Ja.1 (hl q o).2 s (J6 hs))⟩
 |fam T Ts n Q F=>
  obtain⟨ps,l,rfl,h,j⟩:=h;match Q,h,j with
  |none,h,j=>exact⟨ps,l,rfl,h.less a.less,λi c e=>E3⟩
  |some (i,d),h,j=>
   simp only[Blk.uf];split
   .exact J5
   rename_i t;refine⟨ps,l,rfl,h.less a.less,λi' c' e=> ?_⟩;cases e;obtain⟨p,e1,R⟩:=j i d rfl;have S:i<n:=Gv;obtain⟨b,us,L,_⟩:=h.mem i S;rw[e1]at L;cases L;exact⟨_,e1,a.own _ _ (by simpa using t) R (λ_ _ e=>E3)⟩
 |pmap K k A BV=>
  simp only[Blk.uf];split
  .exact J5
  rename_i t;obtain⟨⟨ps,l,U⟩,r,g,rfl,B,C⟩:=h;obtain⟨E,G,V,_⟩:=a.fam _ _ _ (by simpa using t) U;exact⟨⟨E,G,V⟩,r,g,rfl,B,λq o=>by obtain⟨p,e,h⟩:=C q o;exact⟨p,e,Xh a h (by simpa[SV.ment0]using t)⟩⟩
 |rowh T J n f cp i u=>exact OO.to (SV.uf0 c m) (λ_ _=>rfl) (λs v z h=>HU a.less h z) (λs v h=>XX a h) h
 |pool T J n I al ln ct=>
  obtain⟨ps,l,rfl,h⟩:=h;exact⟨ps,l,rfl,h.keep (ps:=ps) ⟨J9 _,λ_ _ _=>rfl,λb _=>a.less b⟩ (λ_ _=>rfl)⟩
 |dead=>exact J5
theorem EP.drop(a:Drop c m H H' μ μ'){tmps:Array Value}{ρ:List Entry}(h:EP w H μ tmps ρ):EP w H' μ' tmps (ρ.map λe=>{e with sv:=e.sv.uf2 c m}):=by
 intro t e b;rw[UU (f:=λ(e:Entry)=>{e with sv:=e.sv.uf2 c m}) (λ_=>rfl),J7]at b;obtain⟨d,g,rfl⟩:=b;have:=h t d g;unfold CZ at this⊢;simp only;split at this
 .exact c64 a this
 .exact⟨λi=>c64 a (this.1 i),this.2⟩
end
def nilB:SV->Bool
 |.con (.slice none 0 0)=>true
 |_=>false
def lz:Nat->List SV->List SV
 |_,[]=>[]
 |t,s::r=>match nilB s with
  |true=>.osl t::lz (t+1) r
  |false=>s::lz t r
def QG:List SV->Nat
 | []=>0
 |s::r=>match nilB s with
  |true=>QG r+1
  |false=>QG r
theorem c1i:∀(t:Nat) (l:List SV),(lz t l).length=l.length
 |_,[]=>rfl
 |t,s::r=>by simp only[lz];split<;>simp[c1i]
theorem d3r:∀(t:Nat) (l:List SV) (i:Nat) (s:SV),(lz t l)[i]?=some s->(∃j,s=.osl j/\t<=j/\j<t+QG l/\l[i]?=some (.con (.slice none 0 0)))\/l[i]?=some s
 |_,[],i,s,h=>by simp[lz]at h
 |t,x::r,i,s,h=>by
  simp only[lz]at h;split at h
  .rename_i a;have hx:x=.con (.slice none 0 0):=by
    unfold nilB at a;split at a
    .rfl
    .cases a
   have d:QG (x::r)=QG r+1:=by simp only[QG,a]
   match i with
   |0=>simp at h;exact .inl ⟨t,h.symm,J9 _,Dv,Ef⟩
   |i+1=>
    rcases d3r (t+1) r i s E2 with⟨j,b,c,e,h4⟩|h4
    .exact .inl ⟨j,b,Dv,Dv,Fe⟩
    .exact .inr Fe
  .rename_i a;have d:QG (x::r)=QG r:=by simp only[QG,a]
   match i with
   |0=>exact .inr h
   |i+1=>
    rcases d3r t r i s E2 with⟨j,b,c,e,h4⟩|h4
    .exact .inl ⟨j,b,c,Dv,Fe⟩
    .exact .inr Fe
def b5g(E:Env)(st:St)(T:TypeId)(g sk h:SV):Option (Prop×St):=match g with
 |.omp a=>match st.own[a]? with
  |some (.pmap K k c BV)=>match h with
   |.own j 0=>match st.own[k]?,st.own[j]? with
    |some (.fam f d n none F),some (.cells i b)=>match E.P.underlying T with
     |some (.map _ _)=>if E.kt T=some K/\f=i/\QG b=d.length/\(lz 0 b).all SV.memc=true/\b.all SV.pure=true/\j≠k/\a≠k/\a≠j/\E.ak k=false/\E.ak j=false then
      (Wy K sk).map λq=>(True,⟨st.ρ.map λe=>{e with sv:=e.sv.uf2 j 0},
        (((st.own.map (Blk.uf j 0)).set k (.fam f d (n+1) none (λx=>if x=n then⟨lz 0 b,d.map λ_=>(0,λ_=>[])⟩else F x))).set j .dead).set a (.pmap K k (KA c q) (λp=>if p=q then n else BV p))⟩)
      else none
     |_=>none
    |_,_=>none
   |_=>none
  |_=>none
 |_=>none
section
variable{E:Env}{B0:Nat}{X A:Nat->Prop}{w0:World}{nt:Nat}{st:St}{a:Act}{w:World}{μ:Mu}
theorem b78(hE:EnvOK E)(h:SD E B0 X A w0 nt st a w μ){T:TypeId}{m i x:SV}{vm vi vx:Value}{pre:Prop}{Y:St}(hm:D w (held A μ) μ m vm)(hi:D w (held A μ) μ i vi)(hx:D w (held A μ) μ x vx)(C:b5g E st T m i x=some (pre,Y)):
 ∃w' μ',(Instr.mapUpdate T vm vi vx).run E.P w=.ok () w'/\SD E B0 X A w0 nt Y a w' μ':=by
 unfold b5g at C;split at C;rotate_left
 .cases C
 rename_i S;split at C;rotate_left
 .cases C
 rename_i K k Z BV Zc;split at C;rotate_left
 .cases C
 rename_i j;split at C;rotate_left
 .cases C
 rename_i Tf Ts n F Tc cs hk hj;split at C;rotate_left
 .cases C
 rename_i ky elem hT;split at C;rotate_left
 .cases C
 rename_i I;obtain⟨wa,rfl,hnil,tp,rd,V4,Q4,hj0j,qf,Y5⟩:=I;simp only[Ic]at C;obtain⟨q,hq,rfl,rfl⟩:=C;obtain⟨ky',elem',r9,gz⟩:=hE.kt T K wa;rw[hT]at r9;cases r9;obtain⟨rfl,n9⟩:=b1n hq hi;cases hm with
 |omp f=>
 cases hx with
 |own d=>
 rename_i b;obtain⟨bl,e,ba⟩:=h.own.blk _ _ f;rw[Zc]at e;cases e;obtain⟨⟨ps,M,hμk⟩,r,g,e1,qz,hD⟩:=ba;cases e1;obtain⟨bl,e,ba⟩:=h.own.blk _ _ hμk;rw[hk]at e;cases e;obtain⟨ps',qs',e1,cu,_⟩:=ba;obtain⟨rfl,rfl⟩:=Ow e1;simp only[Option.map_none]at cu;obtain⟨bl,e,ba⟩:=h.own.blk _ _ d;rw[hj]at e;cases e;obtain⟨b',vs,e1,hh,hl,db,hd⟩:=ba;cases e1;have hv:(Value.pointer (some ⟨b,0,none⟩))=IC false [.pointer (some ⟨b,0,none⟩)]:=rfl;obtain⟨o,bp,wc⟩:=b33 (w:=w) hv hT gz qz n9;have b6:=qz.lt;have m6:k<st.own.length:=(J4.1 hk).1;have m7:j<st.own.length:=(J4.1 hj).1;have hj0lt:S<st.own.length:=(J4.1 Zc).1;let B:List Value:=.pointer (some ⟨b,0,none⟩)::Ts.map λ_=>Value.slice none 0 0
 let μ':Mu:=λy=>if y=k then some (BR (ps++[.pointer (some ⟨b,0,none⟩)]) (M++[B]))else if y=j then none else μ y
 have m1:μ' k=some (BR (ps++[.pointer (some ⟨b,0,none⟩)]) (M++[B])):=by simp[μ']
 have m2:μ' j=none:=by simp[μ',V4]
 have m3:∀y,y≠k->y≠j->μ' y=μ y:=λy N O=>by simp[μ',N,O]
 have bh:∀{y x},μ' y=some x->(y=k/\x=BR (ps++[.pointer (some ⟨b,0,none⟩)]) (M++[B]))\/(y≠k/\y≠j/\μ y=some x):=by
  intro y x hy;by_cases e1:y=k
  .exact Da
  .by_cases G:y=j
   .subst G;rw[m2]at hy;cases hy
   .rw[m3 y e1 G]at hy;exact .inr ⟨e1,G,hy⟩
 have m8:∀(Q:Nat) (u:Value) (c:Nat),B[Q]?=some u->FD u=some c->Q=0/\c=b:=by
  intro Q u c N O;match Q with
  |0=>simp[B]at N;subst N;simp[FD]at O;exact⟨rfl,O.symm⟩
  |Q+1=>
   simp only[B,La,Ih]at N;obtain⟨_,_,rfl⟩:=N;rw[XV]at O;cases O
 have cq:∀{i' j' J u c},M[i']?=some J->J[j']?=some u->FD u=some c->CN (BR ps M) c:=λg1 l L=>OD.2 ⟨_,_,J6 g1,J6 l,L⟩;have H:∀{y x c},μ' y=some x->CN x c->(y=k/\CN (BR ps M) c)\/(y=k/\c=b)\/(y≠k/\y≠j/\μ y=some x):=by
  intro y x c hy hx;rcases bh hy with⟨rfl,rfl⟩|V
  .obtain⟨J,u,g1,l,L⟩:=OD.1 hx;rcases Jy.1 g1 with g1|g1
   .exact .inl ⟨rfl,OD.2 ⟨J,u,g1,l,L⟩⟩
   .simp only[Js]at g1;subst g1;obtain⟨Q,Y6⟩:=Kr.1 l;exact .inr (.inl ⟨rfl,(m8 Q u c Y6 L).2⟩)
  .exact .inr (.inr V)
 have U:CN (.pointer (some ⟨b,0,none⟩)) b:=c5n.2 rfl;have bb:∀c,held A μ' c->held A μ c:=by
  rintro c (I|⟨y,x,hy,hx⟩)
  .exact .inl I
  .rcases H hy hx with⟨_,N⟩|⟨_,rfl⟩|⟨_,_,V⟩
   .exact .inr ⟨k,_,hμk,N⟩
   .exact .inr ⟨j,_,d,U⟩
   .exact .inr ⟨y,x,V,hx⟩
 have v7:CN (.map (some r)) r:=d2p.2 rfl;have bv:Keeps w (ND w r o) (held A μ) (held A μ) μ μ:=⟨Fq,λc _ I=>TI (λe=>I (by subst e;exact .inr ⟨S,_,f,v7⟩)),λ_ _ h=>h,λ_ _ h=>h⟩
 have di:Drop j 0 (held A μ) (held A μ') μ μ':=by
  refine⟨bb,λy x hy hx T8=> ?_,λy ps2 qs2 hy hx=> ?_⟩
  .have e1:y≠j:=λe=>by subst e;simp[EJ]at hy
   have G:y≠k:=λe=>Hs;rw[m3 y G e1];exact hx
  .have e1:y≠j:=λe=>by subst e;simp[EJ]at hy
   by_cases G:y=k
   .subst G;rw[hμk]at hx;obtain⟨rfl,rfl⟩:=Ow (K6 hx);exact⟨_,_,m1,λi p hp=>by rw[Jc (J4.1 hp).1];exact hp⟩
   .exact⟨ps2,qs2,(m3 y G e1).trans hx,λ_ _ h=>h⟩
 have hB:=(h.own.rng S _ r f v7).2.2;have zh:∀y x,y≠S->μ y=some x->∀c,CN x c->(ND w r o).heap[c]?=w.heap[c]?:=λy x hy hx c I=>TI (λe=>by subst e;exact hy (h.own.inj y S x _ _ hx f I v7))
 have V5:∀s v,s.pure=true->D w (held A μ) μ s v->D (ND w r o) (held A μ') μ' s v:=λs v hp hs=>HU bb (hs.keep bv) hp;refine⟨_,μ',bp,⟨λy x hy=> ?_,λy y' x x' c hy W hx cm=> ?_,λy x c hy hx=> ?_,λc I=>by rw[Wd];exact h.own.bnd c I⟩,h.fr.trans ⟨rfl,rfl,rfl,λ_=>J9 _,Fq,λi hi hX=>TI (λe=>by subst e;rcases hB with hb|hb;omega;exact hX hb)⟩,
  by rw[Wd];exact h.base,λg s hg=>⟨(h.glo g s hg).1,V5 _ _ (h.glo g s hg).1 (h.glo g s hg).2⟩,h.dfr,h.size,(h.env.keep bv).drop di,λy hy=> ?_,λy x hx=> ?_⟩
 .rcases bh hy with⟨rfl,rfl⟩|⟨Q5,hyj,W⟩
  .refine⟨.fam Tf Ts (n+1) none (λx=>if x=n then⟨lz 0 cs,Ts.map λ_=>(0,λ_=>[])⟩else F x),by rw[Jh Q4,Jh V4,K4 (by simpa using m6)],_,_,rfl,⟨by simp[cu.pl],by simp[cu.ql],λi1 j1 i2 j2 R J u1 u2 c g1 l L g4 g5 g6=> ?_,λi1 dv=> ?_⟩,λi c e=>E3⟩
   .have at':∀{i us},(M++[B])[i]?=some us->M[i]?=some us/\i<M.length\/i=M.length/\us=B:=by
     intro i us hi;by_cases b6:i<M.length
     .rw[Jc b6]at hi;exact .inl ⟨hi,b6⟩
     .rw[Jm Dv]at hi;match br:i-M.length,hi with
      |0,hi=>simp at hi;exact .inr ⟨Dv,hi.symm⟩
      |z+1,hi=>simp at hi
    rcases at' g1 with⟨k1,_⟩|⟨e1,rfl⟩<;>rcases at' g4 with⟨k4,_⟩|⟨G,rfl⟩
    .exact cu.nd i1 j1 i2 j2 R J u1 u2 c k1 l L k4 g5 g6
    .have:=(m8 j2 u2 c g5 g6).2;subst this;exact absurd (h.own.inj y j _ _ c hμk d (cq k1 l L) U) (Ne.symm V4)
    .have:=(m8 j1 u1 c l L).2;subst this;exact absurd (h.own.inj y j _ _ c hμk d (cq k4 g5 g6) U) (Ne.symm V4)
    .exact⟨Dv,(m8 j1 u1 c l L).1.trans (m8 j2 u2 c g5 g6).1.symm⟩
   .by_cases fj:i1<n
    .obtain⟨b1,R,g1,l,L⟩:=cu.mem i1 fj;refine⟨b1,R,by rw[Jc (by rw[cu.pl];exact fj)];exact g1,by rw[Jc (by rw[cu.ql];exact fj)];exact l,.inr ⟨Dx,?_⟩⟩;rcases L with⟨L,_⟩|⟨_,us3,e3,g4⟩
     .cases L
     .refine⟨us3,e3,?_⟩;rw[J3 Dv];refine g4.keep ⟨Fq,λc _ I=>TI (λe=>I (by subst e;exact .inr ⟨S,_,f,v7⟩)),λc _=>bb c⟩ (λu c hu tw=>zh y _ (Ne.symm Q4) hμk c (OD.2 ⟨R,u,J6 l,?_,tw⟩));subst e3;rcases hu with rfl|hu
      .simp
      .simp[hu]
    .have:i1=n:=Dv;subst this;refine⟨b,B,I8,by rw[Jm (by rw[cu.ql];exact J9 _),cu.ql,Ks];rfl,.inr ⟨Dx,_,rfl,?_⟩⟩;rw[Iz rfl];refine⟨⟨b,vs,rfl,(zh j _ (Ne.symm hj0j) d b U).trans hh,by rw[hl,c1i],db,λi s v hs hv=> ?_⟩,tp,Dx,Dx,λt tt rr u N O V=> ?_⟩
     .rcases d3r 0 cs i s hs with⟨Q,rfl,_,Y6,ga⟩|ga
      .have:=hd i _ v ga hv;cases this;have hjj':Q<Ts.length:=by rw[<-hnil];omega
       exact .osl (n:=0) (m:=0) (a:=none) (by simp[YK,Iy hjj'])
      .exact HU bb ((hd i s v ga hv).keep bv) (Ja.1 rd s (J6 ga))
     .simp only[Ih]at O V;obtain⟨_,_,rfl⟩:=O;obtain⟨_,_,rfl⟩:=V;exact⟨none,0,rfl,J9 _,F8,.inl rfl,λi hi=>absurd hi (Jq _),.inl rfl⟩
  .obtain⟨bl,e,hb⟩:=h.own.blk y x W;have hylt:y<st.own.length:=(J4.1 e).1;by_cases ey:y=S
   .subst ey;rw[Zc]at e;cases e;rw[f]at W;cases W;refine⟨.pmap K k (KA Z q) (λp=>if p=q then n else BV p),by rw[K4 (by simpa using hylt)],⟨_,_,m1⟩,r,_,rfl,wc,λp hp=> ?_⟩;by_cases ep:p=q
    .refine⟨.pointer (some ⟨b,0,none⟩),by simp[ep],?_⟩;simp only[ep,Ke];refine .fp ?_;simp only[Ke];exact⟨_,_,b,m1,I8,rfl⟩
    .have w5:Z p=true:=Gx;obtain⟨v,e,gw⟩:=hD p w5;refine⟨v,by simp[ep,e],?_⟩;simp only[ep,if_false];exact Xh di (gw.keep bv) (by simp[SV.ment0,EJ];omega)
   .refine⟨bl.uf j 0,by rw[Jh (Ne.symm ey),Jh (Ne.symm hyj),Jh (Ne.symm Q5),Jr,e];rfl,?_⟩;exact(hb.keep bv (λc I=>zh y x ey W c I)).drop di
 .rcases H hy hx with⟨e1,g1⟩|⟨e1,g1⟩|⟨e1,e1',g1⟩<;>rcases H W cm with⟨G,l⟩|⟨G,l⟩|⟨G,e2',l⟩
  .omega
  .omega
  .exact absurd (h.own.inj y' k _ _ c l hμk cm g1) G
  .omega
  .omega
  .subst g1;exact absurd (h.own.inj y' j _ _ c l d cm U) e2'
  .exact absurd (h.own.inj y k _ _ c g1 hμk hx l) e1
  .subst l;exact absurd (h.own.inj y j _ _ c g1 d hx U) e1'
  .exact h.own.inj y y' x x' c g1 l hx cm
 .rw[Wd];rcases H hy hx with⟨e1,g1⟩|⟨e1,g1⟩|⟨e1,e1',g1⟩
  .exact h.own.rng k _ c hμk g1
  .subst g1;exact h.own.rng j _ c d U
  .exact h.own.rng y x c g1 hx
 .simp only[Kj,Jv]at hy;rw[m3 y Dv Dv];exact h.fresh y hy
 .have e1:y≠k:=λe=>Gy;have G:y≠j:=λe=>by subst e;rw[Env.an_ak hx]at Y5;cases Y5
  rw[m3 y e1 G];exact h.anc y x hx
end
def SV.fz0(s:SV)(k:Nat)(t:SV):SV:=match s with
 |.osl j=>if j=k then t else .osl j
 |s=>s.kill0 [k]
def SV.fz1(s:SV)(k:Nat)(t:SV):SV:=match s with
 |.agg a=>.agg (a.map λs=>s.fz0 k t)
 |s=>s.fz0 k t
def SV.fz2(s:SV)(k:Nat)(t:SV):SV:=match s with
 |.tup a=>.tup (a.map λs=>s.fz1 k t)
 |s=>s.fz1 k t
def Blk.fz(b:Blk)(k:Nat)(t:SV):Blk:=match b with
 |.cells T d=>.cells T (d.map λs=>s.fz0 k t)
 |.pmap K j a BV=>if j=k then .dead else .pmap K j a BV
 |.rowh T e n f c i u=>.rowh T e n f c i (u.map λs=>s.fz0 k t)
 |b=>b
def Mu.drop(k:Nat)(μ:Mu):Mu:=λj=>if j=k then none else μ j
section
variable{w:World}{H H':Nat->Prop}{μ μ':Mu}{k:Nat}{t:SV}
theorem b1e(a:Keeps' [k] w w H H' μ μ')(b:∀v,μ k=some v->D w H' μ' t v){s:SV}{v:Value}(h:D w H μ s v):D w H' μ' (s.fz0 k t) v:=by
 unfold SV.fz0;split
 .rename_i j;split
  .rename_i e;subst e;cases h with
   |osl h=>exact b _ h
  .rename_i e;cases h with
   |osl h=>exact .osl (a.own _ _ Fc h)
 .exact Xw a h
theorem b8d(a:Keeps' [k] w w H H' μ μ')(b:∀v,μ k=some v->D w H' μ' t v){s:SV}{v:Value}(h:D w H μ s v):D w H' μ' (s.fz1 k t) v:=by
 unfold SV.fz1;split
 .cases h with
  |agg c hl d=>
   refine .agg c E9 (λi s v hs e=> ?_);simp only[Ih]at hs;obtain⟨f,g,rfl⟩:=hs;exact b1e a b (d i f v g e)
 .exact b1e a b h
theorem b7y(a:Keeps' [k] w w H H' μ μ')(b:∀v,μ k=some v->D w H' μ' t v){s:SV}{v:Value}(h:D w H μ s v):D w H' μ' (s.fz2 k t) v:=by
 unfold SV.fz2;split
 .cases h with
  |tup c hl d=>
   refine .tup c E9 (λi s v hs e=> ?_);simp only[Ih]at hs;obtain⟨f,g,rfl⟩:=hs;exact b8d a b (d i f v g e)
 .exact b8d a b h
theorem DK.fz(a:Keeps' [k] w w H H' μ μ')(l:∀v,μ k=some v->D w H' μ' t v){x:Value}{bl:Blk}(h:DK w H μ x bl):DK w H' μ' x (bl.fz k t):=by
 cases bl with
 |cells T cs=>
  obtain⟨b,y,rfl,z,hl,A,d⟩:=h;refine⟨b,y,rfl,z,E9,A,λi s v hs B=> ?_⟩;simp only[Ih]at hs;obtain⟨C,E,rfl⟩:=hs;exact b1e a l (d i C v E B)
 |row T m n f c=>
  have:=DK.change a (λ_ _=>rfl) h;exact this
 |map K ag j val=>
  have:=DK.change a (λ_ _=>rfl) h;exact this
 |fam T Ts n bt F=>
  have:=DK.change a (λ_ _=>rfl) h;exact this
 |pmap K k' j BV=>
  simp only[Blk.fz];split
  .exact J5
  rename_i o;obtain⟨⟨G,I,J⟩,r,g,rfl,L,d⟩:=h;refine⟨⟨G,I,a.own _ _ (by simpa using o) J⟩,r,g,rfl,L,λq M=> ?_⟩;obtain⟨p,e,h⟩:=d q M;exact⟨p,e,b2x a (by simpa using o) h⟩
 |rowh T m n f c i u=>exact OO.to (λs=>s.fz0 k t) (λ_ _=>rfl) (λs v N h=>KI a h N) (λs v h=>b1e a l h) h
 |pool T m n d al ln ct=>
  have:=DK.change a (λ_ _=>rfl) h;exact this
 |dead=>exact J5
end
theorem d1p{w:World}{H H':Nat->Prop}{μ μ':Mu}{x:Value}{T:TypeId}{sz n:Nat}{f:Nat->List SV}{c:Option Nat}(l:∀b,H' b->H b)(hx:∀b,CN x b->¬H' b)(h:DK w H μ x (.row T sz n f c)):D w H' μ' (.sl sz n f c) x:=by
 obtain⟨a,m,rfl,hn,hm,hc,hl,q⟩:=h;rcases q with rfl|⟨b,o,e,r,rfl,g,ho,h1,t⟩
 .exact Cp
 .have u:¬H' b:=hx b (KD r);have k:∀i j,i<n->j<sz->o+i*sz+j<e.length:=λi j hi d=>by
   have:=MG hi d;have:n*sz<=m*sz:=Ka _ hn;omega
  refine .sl _ b o m (λi j=>e.getD (o+i*sz+j) undef) hn hm hc (λ_=>⟨rfl,u,PY g,λi j hi d=> ?_⟩) hl (λi j s hi hs=> ?_)
  .have:=k i j hi d;rw[SX g,Iy this];simp only[In,Iy this];exact Cq
  .have d:j<sz:=G5;have:=k i j hi d;simp only[In,Iy this];exact GS l (t i j s _ hi hs (Iy this)) (Ja.1 (hl i hi).2 s (J6 hs))
def St.fz(E:Env)(k:Nat)(st:St):St:=match st.own[k]? with
 |some (.row _ a n f c)=>if E.ak k then st else⟨st.ρ.map λe=>{e with sv:=e.sv.fz2 k (.sl a n f c)},st.own.map λb=>b.fz k (.sl a n f c)⟩
 |_=>st
section
variable{E:Env}{B0:Nat}{X A:Nat->Prop}{w0:World}{nt:Nat}{st:St}{a:Act}{w:World}{μ:Mu}
theorem c90(h:SD E B0 X A w0 nt st a w μ)(k:Nat):∃μ',SD E B0 X A w0 nt (st.fz E k) a w μ':=by
 unfold St.fz;split;rotate_left
 .exact⟨μ,h⟩
 rename_i T q n f c F;split
 .exact⟨μ,h⟩
 rename_i H;have r:∀b,held A (μ.drop k) b->held A μ b:=by
  intro b d;rcases d with d|⟨j,x,hj,hx⟩
  .exact .inl d
  .unfold Mu.drop at hj;split at hj
   .cases hj
   .exact .inr ⟨j,x,hj,hx⟩
 have u:Keeps' [k] w w (held A μ) (held A (μ.drop k)) μ (μ.drop k):=⟨J9 _,λ_ _ _=>rfl,λb _ d=>r b d,λj x hj hx=>by simp only[Js]at hj;simp[Mu.drop,hj,hx],λj x hj d=>by simp only[Js]at hj;subst hj;obtain⟨y,e,i⟩:=h.own.blk _ _ d;rw[F]at e;cases e;obtain⟨a,m,I,_⟩:=i;exact .inl ⟨_,_,_,I⟩⟩
 have z:∀v,μ k=some v->D w (held A (μ.drop k)) (μ.drop k) (.sl q n f c) v:=by
  intro v B;obtain⟨y,e,i⟩:=h.own.blk _ _ B;rw[F]at e;cases e;refine d1p r (λb d C=> ?_) i;rcases C with C|⟨j,x,hj,hx⟩
  .exact(h.own.rng _ _ b B d).2.1 C
  .unfold Mu.drop at hj;split at hj
   .cases hj
   .rename_i J;exact J (h.own.inj j k x v b hj B hx d)
 have o:∀{j x},μ.drop k j=some x->μ j=some x:=by
  intro j x hj;unfold Mu.drop at hj;split at hj
  .cases hj
  .exact hj
 refine⟨μ.drop k,⟨λj x hj=> ?_,λj K x L b hj M=>h.own.inj j K x L b (o hj) (o M),λj x b hj=>h.own.rng j x b (o hj),h.own.bnd⟩,h.fr,h.base,λg s l=>⟨(h.glo g s l).1,GS r (h.glo g s l).2 (h.glo g s l).1⟩,h.dfr,h.size,λt e G=> ?_,λj hj=> ?_,λj x hx=> ?_⟩
 .obtain⟨y,e,i⟩:=h.own.blk j x (o hj);exact⟨y.fz k (.sl q n f c),by simp[e],i.fz u z⟩
 .rw[UU (f:=λ(e:Entry)=>{e with sv:=e.sv.fz2 k (.sl q n f c)}) (λ_=>rfl),J7]at G;obtain⟨N,O,rfl⟩:=G;have:=h.env t N O;unfold CZ at this⊢;simp only;split at this
  .exact b7y u z this
  .exact⟨λl=>b7y u z (this.1 l),this.2⟩
 .have:=h.fresh j Em;simp[Mu.drop,this]
 .have:=h.anc j x hx;unfold Mu.drop;rw[J3 (λe=>H (by rw[<-e];exact Env.an_ak hx))];exact this
end
def f74(E:Env)(own:List Blk)(ρ:Operand->Option SV)(i:Op):Option (Prop×SV×List Blk):=
 match i with
 |.call c=>match c.callee,c.args.toList with
  |.value f,x::a=>match ρ f,ρ x with
   |some (.clo b []),some (.osl k)=>match E.X b,own[k]? with
    |some e,some (.row T d n g j)=>(a.mapM ρ).bind λh=>if h.any SV.hasOsl then none else(h.mapM (SV.roA own)).bind λl=>(e T d n g l).map λr=>(r.1,if r.2.2 then .osl k else .tup [],own.set k (.row T d n r.2.1 j))
    |_,_=>none
   |_,_=>none
  |_,_=>none
 |_=>none
def Tu(k j:Nat):Option Nat:=if j=k then none else some j
def d44(E:Env)(own:List Blk)(ρ:Operand->Option SV)(h:Op):Option (Prop×SV×List Blk):=
 match h with
 |.call c=>match c.callee,c.args.toList with
  |.value f,x::a=>match ρ f,ρ x with
   |some (.clo b []),some (.osl k)=>match E.X b,own[k]? with
    |some e,some (.row T d n g j)=>(a.mapM ρ).bind λl=>((l.map (SV.ren1 (Tu k))).mapM (SV.roA (own.map (Blk.ren (Tu k))))).bind λm=>
     (e T d n g m).map λr=>(r.1/\∀i,i<n->(r.2.1 i).all SV.flat0=true,if r.2.2 then .osl k else .tup [],own.set k (.row T d n r.2.1 j))
    |_,_=>none
   |_,_=>none
  |_,_=>none
 |_=>none
def f4a(E:Env)(st:St)(o:Oper):Option (Prop×St):=match o.op with
 |.mapUpdate T m k x|.insert T m k x=>match CK E st.ρ none m with
  |some a=>match CK E st.ρ none k with
   |some sk=>match CK E st.ρ none x with
    |some b=>match o.dst with
     |none=>b5g E st T a sk b
     |some _=>none
    |none=>none
   |none=>none
  |none=>none
 |_=>none
def c5b(E:Env)(own:List Blk)(ρ:Operand->Option SV)(b:Op):Option (Prop×Nat×List Blk):=match b with
 |.slice T x none (some c) (some d)=>match ρ x,ρ c,ρ d with
  |some (.osl k),some (.int _ h),some (.int _ m)=>match own[k]? with
   |some (.row g a n f _)=>match OZ E.P T with
    |some e=>if CX E.P e=some a/\E.ak k=false then some (0<=h/\h<=m/\m<=n,k,(own.map (Blk.kill [k])).set k (.row g a h.toNat f (some m.toNat)))else none
    |none=>none
   |_=>none
  |_,_,_=>none
 |_=>none
def d52(E:Env)(ρ:Operand->Option SV)(b:Op):Option (Prop×Blk):=match b with
 |.call {callee:=.builtin .append,args:=⟨[x,y]⟩,argTypes:=⟨[T,U]⟩}=>match OZ E.P T,E.P.underlying U with
  |some e,some (.int _)=>match ρ x,ρ y with
   |some (.sl _ n _ (some c)),some (.int .i64 m)=>match E.P.info? e,Ov E.P e with
    |some a,some z=>if z.length=a.size/\0<a.size/\z.all SV.isCell=true/\z.all SV.pure=true then
     some ((n=0/\c=0)/\0<m/\m<=9223372036854775807/\m.toNat*a.bytes<=140737488355328,.row e a.size m.toNat (λ_=>z) none)else none
    |_,_=>none
   |_,_=>none
  |_,_=>none
 |_=>none
def YQ(E:Env)(nt:Nat)(ops:Array Oper)(st:St)(o:Oper):Option (Prop×St):=
 match o.guard with
 |some _=>f0y E nt ops st o
 |none=>match f74 E st.own (CK E st.ρ none) o.op with
  |some r=>if JS nt o.dst then some (r.1,⟨KO o.dst none r.2.1 st.ρ,r.2.2⟩)else none
  |none=>match d44 E st.own (CK E st.ρ none) o.op with
   |some r=>if JS nt o.dst then some (r.1,⟨KO o.dst none r.2.1 st.ρ,r.2.2⟩)else none
   |none=>match b92 E st.own (CK E st.ρ none) o.op with
    |some r=>if JS nt o.dst then some (r.1,⟨KO o.dst none r.2.1 (UN r.2.2.2 st.ρ),r.2.2.1⟩)else none
    |none=>match f4a E st o with
     |some r=>some r
     |none=>match c5b E st.own (CK E st.ρ none) o.op with
      |some r=>if JS nt o.dst then some (r.1,⟨KO o.dst none (.osl r.2.1) (UN [r.2.1] st.ρ),r.2.2⟩)else none
      |none=>match d52 E (CK E st.ρ none) o.op with
       |some r=>if JS nt o.dst then some (r.1,⟨KO o.dst none (.osl st.own.length) st.ρ,st.own++[r.2]⟩)else none
       |none=>f0y E nt ops st o
def f56:SV->List Nat
 |.osl k=>[k]
 |.agg a=>a.filterMap λs=>match s with|.osl k=>some k|_=>none
 |_=>[]
def XB(E:Env)(o:Oper)(st:St):List Operand->St
 | []=>st
 |.tmp t::r=>XB E o (match CJ t st.ρ with
  |some e=>(f56 e.sv).foldl (λst k=>st.fz E k) st
  |none=>st) r
 |_::r=>XB E o st r
def f0a(E:Env)(nt:Nat)(ops:Array Oper)(st:St)(o:Oper):Option (Prop×St):=
 match o.dst with
 |none=>YQ E nt ops st o
 |some d=>match E.fz d with
  |true=>YQ E nt ops (XB E o st o.op.operands.toList) o
  |false=>YQ E nt ops st o
section
variable{E:Env}{B0:Nat}{X A:Nat->Prop}{w0:World}{nt:Nat}{st:St}{a:Act}{w:World}{μ:Mu}
theorem d2m(ks:List Nat):∀{st:St} {μ:Mu},SD E B0 X A w0 nt st a w μ->∃μ',SD E B0 X A w0 nt (ks.foldl (λst k=>st.fz E k) st) a w μ':=by
 induction ks with
 |nil=>intro st μ h;exact⟨μ,h⟩
 |cons k ks b=>intro st μ h;obtain⟨μ',c⟩:=c90 h k;exact b c
theorem c3p(o:Oper):∀(l:List Operand) {st:St} {μ:Mu},SD E B0 X A w0 nt st a w μ->∃μ',SD E B0 X A w0 nt (XB E o st l) a w μ':=by
 intro l;induction l with
 |nil=>intro st μ h;exact⟨μ,h⟩
 |cons x l b=>
  intro st μ h;cases x with
  |tmp t=>
   simp only[XB];split
   .obtain⟨μ',c⟩:=d2m (f56 _) h;exact b c
   .exact b h
  |const _=>exact b h
  |global _=>exact b h
  |func _=>exact b h
end
theorem DK.row_mono{w:World}{H H':Nat->Prop}{μ μ':Mu}{x:Value}{T:TypeId}{sz n:Nat}{f:Nat->List SV}{c:Option Nat}(g:∀b,H' b->H b)(h:DK w H μ x (.row T sz n f c)):DK w H' μ' x (.row T sz n f c):=by
 obtain⟨a,m,rfl,k,l,p,d,h⟩:=h;refine⟨a,m,rfl,k,l,p,d,?_⟩;rcases h with h|⟨b,o,q,r,rfl,t,u,y,z⟩
 .exact .inl h
 .exact .inr ⟨b,o,q,r,rfl,t,u,y,λi j s v e hs A=>GS g (z i j s v e hs A) (Ja.1 (d i e).2 s (J6 hs))⟩
theorem f1p{B0:Nat}{X A:Nat->Prop}{w:World}{μ:Mu}{own:List Blk}{xs a:List SV}{vs:List Value}(f:Own B0 X A w μ own)(c:DL w (held A μ) μ xs vs)(g:xs.mapM (SV.roA own)=some a)(j:xs.any SV.hasOsl=false){H':Nat->Prop}(k:∀b,H' b->held A μ b):DL w H' BQ a vs:=by obtain⟨l1,l⟩:=OI g;refine⟨by rw[c.1,l1],λi s v hs m=> ?_⟩;have b6:i<xs.length:=G9;obtain⟨y,d,e⟩:=l i _ (Iy b6);rw[hs]at d;cases d;refine Wx f (λ_ _ h=>h) k (c.2 i _ v (Iy b6) m) e (λh=> ?_);have:xs.any SV.hasOsl=true:=Hr;rw[j]at this;cases this
section
variable{E:Env}{B0:Nat}{X A:Nat->Prop}{w0:World}{nt:Nat}{st:St}{a:Act}{w:World}{μ:Mu}
theorem d5f(hC:GR E)(h:SD E B0 X A w0 nt st a w μ){o:Oper}{G:Prop}{s:SV}{own':List Blk}(m:f74 E st.own (CK E st.ρ none) o.op=some (G,s,own'))(hp:G):
 ∃f B,(execOp a.eval o).run E.P w=.ok (.enter f B) w/\own'.length=st.own.length/\Calls E.P f B w λe K=>∃v,e=.returned v/\D K (held A μ) μ s v/\After B0 X A w K μ μ own':=by
 unfold f74 at m;split at m;rotate_left
 .cases m
 rename_i c cy;split at m;rotate_left
 .cases m
 rename_i f x C hf m9;split at m;rotate_left
 .cases m
 rename_i H k I J;split at m;rotate_left
 .cases m
 rename_i e T sz n g cp hX hk;simp only[J8]at m;obtain⟨xs,ku,m⟩:=m;split at m
 .cases m
 rename_i je;simp only[J8,Ic]at m;obtain⟨ys,qu,⟨p,g',r⟩,hr,rfl,rfl,rfl⟩:=m;have F:=h.opds (g:=none) (λq b e=>E3);obtain⟨⟨fn,L,h2,h3⟩,hS⟩:=hC.2.1 H e hX;have V:=F _ _ I;generalize t8:a.eval f=vf at V;have O:=F _ _ J;generalize wh:a.eval x=v at O;cases V with
 |clo Q fu nh=>
 have Q6:Q=[]:=Lp.1 fu;subst Q6;have l:μ k=some v:=by cases O with|osl h=>exact h
 have V6:=Tw (a:=a) F ku;obtain⟨W,M,ba⟩:=h.own.blk k v l;rw[hk]at M;cases M;let Y:Nat->Prop:=λb=>held A μ b/\¬CN v b
 have N:∀b,held Y (GN v) b↔held A μ b:=by
  intro b;constructor
  .rintro(d|⟨j,y,u,hy⟩)
   .exact d.1
   .unfold GN at u;split at u
    .cases u;exact .inr ⟨k,v,l,hy⟩
    .cases u
  .intro d;by_cases e:CN v b
   .exact .inr ⟨0,v,rfl,e⟩
   .exact .inl ⟨d,e⟩
 have tv:∀b,held A μ b->b<w.heap.size:=λb d=>by
  rcases d with d|⟨k,x,hk,hx⟩
  .exact h.own.bnd b d
  .exact(h.own.rng k x b hk hx).1
 refine⟨H,(v::C.map a.eval).toArray,?_,Dx,?_⟩
 .have hm:c.args.map a.eval=(v::C.map a.eval).toArray:=by
   apply Array.ext';rw[Array.toList_map,m9];simp[wh]
  simp only[execOp,cy,resolve,hf,t8,Deferred.ofValue,hm,Ie,invoke,callFunc,run_program,L,h2,Ik,h3];simp
 .refine(hS Y w v T sz n g cp ys _ p g' r (λb d=>tv b d.1) (λb d=>⟨(h.own.rng k v b l d).1,λR=>R.2 d⟩) (λq t S=>⟨(h.glo q t S).1,GS (λb d=>(N b).1 d) (h.glo q t S).2 (h.glo q t S).1⟩) (ba.row_mono (λb d=>(N b).1 d))
   (f1p h.own V6 qu (by simpa using je) (λb d=>(N b).1 d)) hr hp).mono ?_
  rintro e K ⟨U,rfl,r1,r2,hB,z⟩;have Z:Keeps w K (held A μ) (held A μ) μ μ:=⟨z.size,λb d R=>z.block b d (λe=>R (.inr ⟨k,v,l,e⟩)),λ_ _ h=>h,λ_ _ h=>h⟩
  refine⟨U,rfl,?_,⟨λj y u=> ?_,h.own.inj,λj y b u d=> ?_,λb d=>K0 (h.own.bnd b d) z.size⟩,⟨z.os,z.tape,z.output,z.drawn,z.size,λi hi hx=> ?_⟩,Z⟩
  .cases r with
   |true=>rw[r1 rfl];rw[Iz rfl];cases O with|osl h=>exact .osl h
   |false=>rw[r2 rfl];exact .tup [] rfl (λi s v h=>E6)
  .by_cases e:j=k
   .subst e;rw[l]at u;cases u;exact⟨_,Ht,hB.row_mono (λb d=>(N b).2 d)⟩
   .obtain⟨W,M,d⟩:=h.own.blk j y u;refine⟨W,by rw[Jh (Ne.symm e)];exact M,d.keep Z (λb d=>z.block b (h.own.rng j y b u d).1 (λe2=>e (h.own.inj j k y v b u l d e2)))⟩
  .obtain⟨q1,q2⟩:=h.own.rng j y b u d;exact⟨K0 q1 z.size,q2⟩
  .refine z.block i (K0 hi h.base) (λe=> ?_);rcases(h.own.rng k v i l e).2.2 with L|L
   .omega
   .exact hx L
theorem DK.row_flat{w:World}{H H':Nat->Prop}{μ μ':Mu}{x:Value}{T:TypeId}{sz n:Nat}{f:Nat->List SV}{c:Option Nat}(e:∀i,i<n->(f i).all SV.flat0=true)(h:DK w H μ x (.row T sz n f c)):DK w H' μ' x (.row T sz n f c):=by
 obtain⟨a,m,rfl,g,k,l,p,h⟩:=h;refine⟨a,m,rfl,g,k,l,p,?_⟩;rcases h with h|⟨b,o,q,r,rfl,t,u,y,z⟩
 .exact .inl h
 .exact .inr ⟨b,o,q,r,rfl,t,u,y,λi j s v d hs A=>XH (Ja.1 (e i d) s (J6 hs)) (z i j s v d hs A)⟩
theorem d06(hC:GR E)(h:SD E B0 X A w0 nt st a w μ){o:Oper}{M:Prop}{s:SV}{own':List Blk}(C:d44 E st.own (CK E st.ρ none) o.op=some (M,s,own'))(Y:M):
 ∃f I,(execOp a.eval o).run E.P w=.ok (.enter f I) w/\own'.length=st.own.length/\Calls E.P f I w λe R=>∃v,e=.returned v/\D R (held A μ) μ s v/\After B0 X A w R μ μ own':=by
 unfold d44 at C;split at C;rotate_left
 .cases C
 rename_i c cy;split at C;rotate_left
 .cases C
 rename_i f x F hf m9;split at C;rotate_left
 .cases C
 rename_i N k O Q;split at C;rotate_left
 .cases C
 rename_i e T sz n g cp hX hk;simp only[J8,Ic]at C;obtain⟨xs,ku,ys,qu,⟨p,g',r⟩,hr,rfl,rfl,rfl⟩:=C;obtain⟨Y,J⟩:=Y;have K:=h.opds (g:=none) (λq b e=>E3);obtain⟨⟨fn,S,h2,h3⟩,hS⟩:=hC.2.1 N e hX;have fw:=K _ _ O;generalize t8:a.eval f=vf at fw;have Z:=K _ _ Q;generalize wh:a.eval x=v at Z;cases fw with
 |clo cvs fu nh=>
 have Q6:cvs=[]:=Lp.1 fu;subst Q6;have l:μ k=some v:=by cases Z with|osl h=>exact h
 have V6:=Tw (a:=a) K ku;obtain⟨U,V,ba⟩:=h.own.blk k v l;rw[hk]at V;cases V;let W:Nat->Prop:=λb=>A b\/CN v b
 let B:Mu:=μ.drop k
 have z:∀{j x},B j=some x->j≠k/\μ j=some x:=by
  intro j x m;simp only[B,Mu.drop]at m;split at m
  .cases m
  .rename_i b9;exact⟨b9,m⟩
 have V8:∀j i x,Tu k j=some i->μ j=some x->B i=some x:=by
  intro j i x m hx;unfold Tu at m;split at m
  .cases m
  .rename_i b9;cases m;simp[B,Mu.drop,b9,hx]
 have Zd:∀b,held W B b↔held A μ b:=by
  intro b;constructor
  .rintro((d|d)|⟨j,y,m,H⟩)
   .exact .inl d
   .exact .inr ⟨k,v,l,d⟩
   .exact .inr ⟨j,y,(z m).2,H⟩
  .rintro(d|⟨j,y,m,H⟩)
   .exact .inl (.inl d)
   .by_cases e:j=k
    .subst e;rw[l]at m;cases m;exact .inl (.inr H)
    .exact .inr ⟨j,y,by simp[B,Mu.drop,e,m],H⟩
 have Ze:Own B0 X W w B (st.own.map (Blk.ren (Tu k))):=by
  refine⟨λj y m=> ?_,λj j' y y' b m bm=>h.own.inj j j' y y' b (z m).2 (z bm).2,λj y b m d=> ?_,λb d=> ?_⟩
  .obtain⟨U,L,d⟩:=h.own.blk j y (z m).2;exact⟨U.ren (Tu k),by simp[L],d.ren (λb d=>(Zd b).1 d) V8⟩
  .obtain⟨r1,r2,r3⟩:=h.own.rng j y b (z m).2 d;refine⟨r1,?_,r3⟩;rintro(hA|hv)
   .exact r2 hA
   .exact(z m).1 (h.own.inj j k y v b (z m).2 l d hv)
  .rcases d with d|d
   .exact h.own.bnd b d
   .exact(h.own.rng k v b l d).1
 have Y7:∀b,held A (GN v) b↔W b:=by
  intro b;constructor
  .rintro(d|⟨j,y,m,H⟩)
   .exact .inl d
   .unfold GN at m;split at m
    .cases m;exact .inr H
    .cases m
  .rintro(d|d)
   .exact .inl d
   .exact .inr ⟨0,v,rfl,d⟩
 have bi:∀b,held A (GN v) b->held A μ b:=λb d=>by
  rcases(Y7 b).1 d with d|d
  .exact .inl d
  .exact .inr ⟨k,v,l,d⟩
 have hDy:DL w (held A (GN v)) BQ ys (F.map a.eval):=by
  obtain⟨l1,l2⟩:=OI qu;refine⟨by rw[V6.1,l1];simp,λi s u hs hu=> ?_⟩;have b6:i<(xs.map (SV.ren1 (Tu k))).length:=G9;obtain⟨y,H,L⟩:=l2 i _ (Iy b6);rw[hs]at H;cases H;have fj:i<xs.length:=by simpa using b6
  have jt:=b1i (w:=w) (H':=held W B) (μ':=B) (λb d=>(Zd b).1 d) V8 (V6.2 i _ u (Iy fj) hu);simp only[Ls]at L;exact Wx Ze (λ_ _ h=>h) (λb d=>(Zd b).2 (bi b d)) jt L (λ_ b d=>(Y7 b).1 d)
 have tv:∀b,held A μ b->b<w.heap.size:=λb d=>by
  rcases d with d|⟨k,x,hk,hx⟩
  .exact h.own.bnd b d
  .exact(h.own.rng k x b hk hx).1
 refine⟨N,(v::F.map a.eval).toArray,?_,Dx,?_⟩
 .have hm:c.args.map a.eval=(v::F.map a.eval).toArray:=by
   apply Array.ext';rw[Array.toList_map,m9];simp[wh]
  simp only[execOp,cy,resolve,hf,t8,Deferred.ofValue,hm,Ie,invoke,callFunc,run_program,S,h2,Ik,h3];simp
 .refine(hS A w v T sz n g cp ys _ p g' r h.own.bnd (λb d=>⟨(h.own.rng k v b l d).1,(h.own.rng k v b l d).2.1⟩) (λq t hg=>⟨(h.glo q t hg).1,GS bi (h.glo q t hg).2 (h.glo q t hg).1⟩) (ba.row_mono bi) hDy hr Y).mono ?_;rintro e R ⟨res,rfl,r1,r2,hB,G⟩;have bv:Keeps w R (held A μ) (held A μ) μ μ:=⟨G.size,λb d hh=>G.block b d (λe=>hh (.inr ⟨k,v,l,e⟩)),λ_ _ h=>h,λ_ _ h=>h⟩
  refine⟨res,rfl,?_,⟨λj y m=> ?_,h.own.inj,λj y b m d=> ?_,λb d=>K0 (h.own.bnd b d) G.size⟩,⟨G.os,G.tape,G.output,G.drawn,G.size,λi hi hx=> ?_⟩,bv⟩
  .cases r with
   |true=>rw[r1 rfl];rw[Iz rfl];cases Z with|osl h=>exact .osl h
   |false=>rw[r2 rfl];exact .tup [] rfl (λi s v h=>E6)
  .by_cases e:j=k
   .subst e;rw[l]at m;cases m;exact⟨_,Ht,hB.row_flat J⟩
   .obtain⟨U,V,d⟩:=h.own.blk j y m;refine⟨U,by rw[Jh (Ne.symm e)];exact V,d.keep bv (λb d=>G.block b (h.own.rng j y b m d).1 (λL=>e (h.own.inj j k y v b m l d L)))⟩
  .obtain⟨q1,q2⟩:=h.own.rng j y b m d;exact⟨K0 q1 G.size,q2⟩
  .refine G.block i (K0 hi h.base) (λe=> ?_);rcases(h.own.rng k v i l e).2.2 with S|S
   .omega
   .exact hx S
theorem b3e{P:Program}{w:World}{T U ty e:TypeId}{k:IntKind}{b:TypeInfo}{c:Value}(f:P.underlying T=some (.slice e))(g:P.underlying U=some (.int k))(hi:P.info? e=some b)(i:b.zero=some c){a:Option Addr}{m:Nat}(j:0<m)(rz:m<=9223372036854775807)(l:m*b.bytes<=140737488355328)(n:0<b.size):
 (Builtin.append_ #[T,U] ty #[.slice a 0 0,.int .i64 m]).run P w=.ok (.slice (some ⟨w.heap.size,0,none⟩) m (grownCap w m 0 e)) (w.drew.alloc (.cells (Builtin.zeroCells c.cells m++Builtin.zeroCells c.cells (grownCap w m 0 e-m)) e)):=by
 have o:IntKind.i64.wrap (m:Int)=m:=Qj Ff;have q:m≠0:=Dv;have r:¬((m:Int)<0):=Dv;have s:¬(281474976710656<(m:Int)*(b.bytes:Int)):=by have:((m*b.bytes:Nat):Int)=(m:Int)*b.bytes:=Dx;omega
 have t:¬(9223372036854775807<(m:Int)):=Dv;have h48:=growslice_fits (need:=m) (old:=0) Dv l;have u:¬(281474976710656<Builtin.nextslicecap m 0*b.bytes):=Dv;have d:b.size≠0:=Dv;have v:(Builtin.firstCells b.size 0 (.slice a 0 0)).run P w.drew=.ok #[] w.drew:=by cases a<;>simp[Builtin.firstCells,loadCells,loadCellsFrom]
 simp[Builtin.append_,K5 f,K5 g,sizeOf,typeInfo,zeroValue,hi,i,asInt,asIntOf,o,r,s,t,u,q,Question.forced,v,newRow,grownCap];intro h;have:=Nat.mul_pos j n;omega
theorem b7a(z:Array Value)(n i:Nat)(u:Value)(h:(Builtin.zeroCells z n).toList[i]?=some u):z.toList[i%z.size]?=some u:=by
 unfold Builtin.zeroCells at h;rw[Array.toList_map,Jr,J7]at h;obtain⟨j,b,rfl⟩:=h;rw[Array.toList_range]at b;obtain⟨a,e⟩:=J4.1 b;simp only[List.length_range]at a;simp only[List.getElem_range]at e;subst e;have d:0<z.size:=by
  rcases Kg z.size with e|e
  .rw[e]at a;simp at a
  .exact e
 have c:=Nk i d;rw[Kz,Lh z (i%z.size) c,M2 c]
theorem d0t{B0:Nat}{X A:Nat->Prop}{w:World}{μ:Mu}{own k:List Blk}{a:Act}{ρ:Operand->Option SV}(Y:Own B0 X A w μ k)(M:B0<=w.heap.size)(Z:μ own.length=none)(B:∀(x:Operand) (s:SV),ρ x=some s->D w (held A μ) μ s (a.eval x)){o:Oper}{C:Prop}{b:Blk}
 (d:d52 E ρ o.op=some (C,b)) (hp:C) (d8:k[own.length]?=some b):
 ∃r I μ',(execOp a.eval o).run E.P w=.ok (.value r) I/\After B0 X A w I μ μ' k/\(∀j,j≠own.length->μ' j=μ j)/\D I (held A μ') μ' (.osl own.length) r:=by
 unfold d52 at d;split at d;rotate_left
 .cases d
 rename_i x y T U cy;split at d;rotate_left
 .cases d
 rename_i e ki hT hU;split at d;rotate_left
 .cases d
 rename_i sz n f c m hx hy;split at d;rotate_left
 .cases d
 rename_i t z N hz;split at d;rotate_left
 .cases d
 rename_i u;obtain⟨tk,f9,qw,J⟩:=u;simp only[Id]at d;obtain⟨rfl,rfl⟩:=d;obtain⟨⟨rfl,rfl⟩,Y8,ze,ta⟩:=hp;have ht:=QT hT;obtain⟨inf',l,F,mn,rfl,O⟩:=SI (w:=w) (H:=held A μ) (μ:=μ) hz;rw[N]at F;cases F;have G:l.cells.size=t.size:=Fa;have Q:∀v∈l.cells.toList,v.oneCell'=true:=SO O qw;have R:=B _ _ hx;have S:=B _ _ hy;generalize wh:a.eval x=vx at R;generalize K:a.eval y=vy at S;cases S;obtain⟨L,rfl⟩:∃L,vx=.slice L 0 0:=by
  cases R with
  |sl a b o m g hm hx u b7 hl hd=>
   rcases u with u|u
   .cases u
   .cases u;exact⟨_,rfl⟩
 have Zf:((m.toNat:Nat):Int)=m:=Dv;have V:=b3e (P:=E.P) (w:=w) (T:=T) (U:=U) (ty:=o.type) (a:=L) (m:=m.toNat) ht hU N mn Dv Dv ta f9;rw[Zf]at V;have gf:=grownCap_ge w m.toNat 0 e;have gh:=Nf w m.toNat 0 e F0;have pg:∀v∈(Builtin.zeroCells l.cells m.toNat++Builtin.zeroCells l.cells (grownCap w m.toNat 0 e-m.toNat)).toList,v.oneCell'=true:=λv q=>by
  rw[Array.toList_append,Jy]at q;rcases q with q|q
  .exact VW Q _ v q
  .exact VW Q _ v q
 have W:(Builtin.zeroCells l.cells m.toNat).toList.length=m.toNat*t.size:=by simp[Nj,G]
 obtain⟨o1,o2⟩:=Tn (x:=.slice (some ⟨w.heap.size,0,none⟩) m.toNat (grownCap w m.toNat 0 e)) Y.drew M Z d8 (.cells (Builtin.zeroCells l.cells m.toNat++Builtin.zeroCells l.cells (grownCap w m.toNat 0 e-m.toNat)) e) (λb hb=>(Ya Dv).1 hb) (λμ' _ bv=>by
  refine⟨_,_,rfl,gf,gh,.inl rfl,λi _=>⟨by simpa using G,J⟩,.inr ⟨w.heap.size,0,(Builtin.zeroCells l.cells m.toNat++Builtin.zeroCells l.cells (grownCap w m.toNat 0 e-m.toNat)).toList,Dv,rfl,Mr w.drew _,?_,pg,λi j s v F hs q=> ?_⟩⟩
  .rw[Array.toList_append,Jx,W,L8,Nj,G,<-Lx,Kv,show m.toNat+(grownCap w m.toNat 0 e-m.toNat)=grownCap w m.toNat 0 e from Dv];exact C2
  .have hj:j<t.size:=by
    have:=(J4.1 hs).1;rw[tk]at this;exact this
   have b6:=MG F hj;rw[Array.toList_append,Kv,Jc (by rw[W];exact b6)]at q;have:=b7a _ _ _ _ q;rw[G,Mh,Nat.mul_add_mod,Nat.mod_eq_of_lt hj]at this;exact((O.2 j s v hs this).keep Keeps.drew).keep bv)
 have bp:(execOp a.eval o).run E.P w=.ok (.value (.slice (some ⟨w.heap.size,0,none⟩) m.toNat (grownCap w m.toNat 0 e))) (w.drew.alloc (.cells (Builtin.zeroCells l.cells m.toNat++Builtin.zeroCells l.cells (grownCap w m.toNat 0 e-m.toNat)) e)):=by simp only[execOp,cy,resolve,Ie,invoke,builtin];rw[show (⟨[x,y]⟩:Array Operand).map a.eval= #[a.eval x,a.eval y]from Dx,wh,K,V];simp
 exact⟨_,_,_,bp,⟨o1,Fr.drew.trans (Fr.alloc _ M),o2.size,o2.block,o2.less,o2.own⟩,λj hj=>Ek,.osl Ed⟩
theorem d02{B0:Nat}{X A:Nat->Prop}{w:World}{μ:Mu}{own:List Blk}{a:Act}{ρ:Operand->Option SV}(K:Own B0 X A w μ own)(hB:B0<=w.heap.size)(t:∀(x:Operand) (s:SV),ρ x=some s->D w (held A μ) μ s (a.eval x)){o:Oper}{y:Prop}{k:Nat}{own':List Blk}
 (d:c5b E own ρ o.op=some (y,k,own')) (hp:y):
 ∃r μ',(execOp a.eval o).run E.P w=.ok (.value r) w/\D w (held A μ') μ' (.osl k) r/\After' [k] B0 X A w w μ μ' own'/\own'.length=own.length/\(E.ak k=false/\k<own.length)/\∀j,j≠k->μ' j=μ j:=by
 unfold c5b at d;split at d;rotate_left
 .cases d
 rename_i T x C mx cy;split at d;rotate_left
 .cases d
 rename_i k' F h G m hx z hm;split at d;rotate_left
 .cases d
 rename_i e' sz n f c L;split at d;rotate_left
 .cases d
 rename_i e hT;split at d;rotate_left
 .cases d
 rename_i hc;obtain⟨M,qf⟩:=hc;simp only[Id]at d;obtain⟨rfl,rfl,rfl⟩:=d;obtain⟨h0,h1,h2⟩:=hp;have N:=QT hT;have kr:E.P.elem T=e:=by simp[Program.elem,N]
 simp only[CX,J7]at M;obtain⟨u,bq,rfl⟩:=M;have O:=t _ _ hx;have Q:=t _ _ z;have R:=t _ _ hm;generalize wh:a.eval x=v at O;generalize H:a.eval C=vh at Q;generalize I:a.eval mx=vm at R;cases Q;cases R;cases O with
 |osl S=>
  obtain⟨bl,B,ba⟩:=K.blk _ _ S;rw[L]at B;cases B;obtain⟨l,g,J,fx,jc,ge,U,V⟩:=ba;cases J;rename_i g l;have B:=Lb (P:=E.P) w G m g .slice3Acap Dv Dv;have J:=Lb (P:=E.P) w F h m.toNat .slice3B Dv Dv;have jq:(Instr.sliceBounds true n g none (some (.int F h)) (some (.int G m))).run E.P w=.ok (0,h.toNat,m.toNat) w:=by simp[Instr.sliceBounds,B,J]
  refine⟨.slice l h.toNat m.toNat,μ.set k' (.slice l h.toNat m.toNat),?_,.osl Ed,b18 K hB S ⟨_,_,_,rfl⟩ ⟨_,_,_,rfl⟩ ?_ (J9 _) (λ_ _ _=>rfl) rfl rfl rfl (λbv=> ?_),Dx,⟨qf,(J4.1 L).1⟩,λj hj=>Ek⟩
  .have hr:(Instr.sliceAt T (.slice l n g) none (some (.int F h)) (some (.int G m))).run E.P w=.ok (.slice l h.toNat m.toNat) w:=by
    have P8:l.map (·.add (0*u.size))=l:=by cases l<;>simp[Addr.add_zero']
    simp only[Instr.sliceAt,Ie,K5 N,Instr.slice,jq,HY bq,P8,ite_self,Nat.sub_zero]
   simp[execOp,cy,wh,H,I,hr]
  .rcases V with h3|⟨b,o,W,Y,rfl,z,ho,Z,hd⟩
   .left;rw[show m.toNat=0 from Dv];exact XV
   .by_cases q:m.toNat=0
    .left;rw[q];exact XV
    .right;left;exact(OM Dv).trans (OM Y).symm
  .refine⟨l,m.toNat,rfl,Dv,Dv,.inr rfl,λi C=>U i Dv,?_⟩;rcases V with h3|⟨b,o,W,Y,rfl,z,ho,Z,hd⟩
   .left;omega
   .by_cases q:m.toNat=0
    .left;exact q
    .right;have:m.toNat*u.size<=g*u.size:=Ka _ Dv;exact⟨b,o,W,Dv,rfl,z,Dv,Z,λi j s v C hs hv=>KI bv (hd i j s v Dv hs hv) (Ja.1 (U i Dv).2 s (J6 hs))⟩
theorem b21(M:EnvOK E)(I:GR E)(h:SD E B0 X A w0 nt st a w μ){ops:Array Oper}{o:Oper}{t:Prop}{z:St}(c:YQ E nt ops st o=some (t,z))(B:t)
 {K:Act->World->Prop} {Q:Exit->Act->World->Prop} (C:∀S n μ',SD E B0 X A w0 nt z S n μ'->K S n):
 if Region.wanted o (yielded ops a.tmps)then o.wp E.P a w K Q else K (a.put o.dst undef) w:=by
 unfold YQ at c;split at c
 .exact b8i M I h c B C
 rename_i kq;have J:∀{p:Prop} {s:SV} {own':List Blk},p=t->JS nt o.dst=true->(⟨KO o.dst none s st.ρ,own'⟩:St)=z->(∃f u,(execOp a.eval o).run E.P w=.ok (.enter f u) w/\own'.length=st.own.length/\Calls E.P f u w λe n=>∃v,e=.returned v/\D n (held A μ) μ s v/\After B0 X A w n μ μ own')->o.wp E.P a w K Q:=by rintro p s own' rfl y rfl ⟨f,u,F,N,V⟩;unfold Oper.wp;rw[F];refine V.mono ?_;rintro e n ⟨v,rfl,L,i⟩;exact C _ n μ (h.put i.own i.fr (NH i.keeps h.glo) (h.env.keep i.keeps) (λk O=>h.fresh k (by rw[<-N];exact O)) h.anc y L)
 split at c
 .rename_i r d;obtain⟨p,s,own'⟩:=r;split at c;rotate_left
  .cases c
  rename_i y;simp only[Id]at c;rw[Iz Ev];exact J c.1 y c.2 (d5f I h d (by rw[show p=t from c.1];exact B))
 .split at c
  .rename_i r d;obtain⟨p,s,own'⟩:=r;split at c;rotate_left
   .cases c
   rename_i y;simp only[Id]at c;rw[Iz Ev];exact J c.1 y c.2 (d06 I h d (by rw[show p=t from c.1];exact B))
  .split at c
   .rename_i r d;obtain⟨p,s,own',kills⟩:=r;split at c;rotate_left
    .cases c
    rename_i y;simp only[Id]at c;obtain⟨rfl,rfl⟩:=c;rw[Iz Ev];exact d0s I h (by rw[<-b8n];exact d) B y C
   .split at c
    .rename_i r d;cases c;rw[Iz Ev];have l:=h.opds (g:=none) (λq b e=>E3);unfold f4a at d;split at d;rotate_left 2
     .cases d
     all_goals
      rename_i T m k x W;split at d;rotate_left
      .cases d
      rename_i sm Y;split at d;rotate_left
      .cases d
      rename_i sk Z;split at d;rotate_left
      .cases d
      rename_i sx qb;split at d;rotate_left
      .cases d
      rename_i nj;obtain⟨n,μ',G,R⟩:=b78 M h (l _ _ Y) (l _ _ Z) (l _ _ qb) d;have F:(execOp a.eval o).run E.P w=.ok .skip n:=by simp[execOp,W,G]
      unfold Oper.wp;rw[F];show K (a.put o.dst undef) n;rw[nj];exact C _ n μ' R
    .split at c
     .rename_i r d;obtain⟨p,k,own'⟩:=r;split at c;rotate_left
      .cases c
      rename_i y;simp only[Id]at c;obtain⟨rfl,rfl⟩:=c;rw[Iz Ev];have l:=h.opds (g:=none) (λq b e=>E3);obtain⟨r,μ',F,L,i,N,U,H⟩:=d02 h.own h.base l d B;unfold Oper.wp;rw[F];show K (a.put o.dst r) w;refine C _ w μ' ?_;refine h.put i.own i.fr (b1s i.keeps h.glo) (h.env.change i.keeps) (λj hj=> ?_) (λj x hx=>i.keeps.own _ _ (λe=> ?_) (h.anc j x hx)) y L
      .rw[N]at hj;rw[H j Dv];exact C7
      .simp only[Js]at e;subst e;rw[Env.an_ak hx]at U;cases U.1
     .split at c
      .rename_i r d;obtain⟨p,b⟩:=r;split at c;rotate_left
       .cases c
       rename_i y;simp only[Id]at c;obtain⟨rfl,rfl⟩:=c;rw[Iz Ev];have l:=h.opds (g:=none) (λq b e=>E3);obtain⟨r,n,μ',F,i,H,L⟩:=d0t (h.own.more (own':=st.own++[b]) WG) h.base (h.fresh _ (J9 _)) l d B Dx;unfold Oper.wp;rw[F];show K (a.put o.dst r) n;refine C _ n μ' ?_;refine h.put i.own i.fr (NH i.keeps h.glo) (h.env.keep i.keeps) (λk O=> ?_) (λj x hx=>i.keeps.own _ _ (h.anc j x hx)) y L;simp only[Ip]at O;rw[H k Dv];exact h.fresh k Dv
      .exact b8i M I h c B C
theorem b0v(e:EnvOK E)(f:GR E)(h:SD E B0 X A w0 nt st a w μ){ops:Array Oper}{o:Oper}{c:Prop}{d:St}(b:f0a E nt ops st o=some (c,d))(g:c)
 {K:Act->World->Prop} {Q:Exit->Act->World->Prop} (i:∀j k μ',SD E B0 X A w0 nt d j k μ'->K j k):
 if Region.wanted o (yielded ops a.tmps)then o.wp E.P a w K Q else K (a.put o.dst undef) w:=by
 unfold f0a at b;split at b
 .exact b21 e f h b g i
 .split at b
  .obtain⟨μ',l⟩:=c3p o o.op.operands.toList h;exact b21 e f l b g i
  .exact b21 e f h b g i
end
theorem VI{b:List (List Value)}{i a j:Nat}{us:List Value}{u:Value}(h:(b.set i [])[a]?=some us)(c:us[j]?=some u):a≠i/\b[a]?=some us:=by
 by_cases e:i=a
 .subst e;by_cases hl:i<b.length
  .rw[K4 hl]at h;cases h;simp at c
  .rw[L9 E9]at h;cases h
 .rw[Jh e]at h;exact⟨Ne.symm e,h⟩
structure SlH where
 a:Option Addr
 n:Nat
 m:Nat
def SlH.val(s:SlH):Value:=.slice s.a s.n s.m
def QU(p:SlH->Prop):Prop:=∀v,p v
theorem QU.mk{p:SlH->Prop}(h:∀v,p v):QU p:=h
theorem QU.out{p:SlH->Prop}(h:QU p):∀v,p v:=h
attribute [irreducible] QU
theorem TE{ps:List Value}{e:List (List Value)}{b:Nat}:CN (BR ps e) b↔∃(i j:Nat) (us:List Value) (u:Value),e[i]?=some us/\us[j]?=some u/\FD u=some b:=by
 rw[OD];constructor
 .rintro⟨us,u,a,c,d⟩;obtain⟨i,f⟩:=Kr.1 a;obtain⟨j,g⟩:=Kr.1 c;exact⟨i,j,us,u,f,g,d⟩
 .rintro⟨i,j,us,u,a,c,d⟩;exact⟨us,u,J6 a,J6 c,d⟩
def witP(p a:Nat)(ρ:List Entry):Bool:=match CJ a ρ with
 |some ⟨_,none,.fp true q _ _⟩=>decide (q=p)
 |_=>false
def d3j(T:TypeId)(sz t:Nat)(st:St):Option St:=match CJ t st.ρ with
 |some ⟨_,none,.own _ a⟩=>some ⟨⟨t,none,.fp true st.own.length 0 a⟩::st.ρ,st.own++[.pool T sz 0 (λ_=>undef) (λ_=>false) (λ_=>0) (λ_ _=>[])]⟩
 |_=>none
def SV.cv0(r:Nat)(v:Value)(s:SV):SV:=match s with
 |.osl j=>if j=r then .con v else .osl j
 |s=>s.uf0 r 0
def SV.cv1(r:Nat)(v:Value):SV->SV
 |.agg a=>.agg (a.map (SV.cv0 r v))
 |s=>s.cv0 r v
def SV.cv2(r:Nat)(v:Value):SV->SV
 |.tup a=>.tup (a.map (SV.cv1 r v))
 |s=>s.cv1 r v
def Blk.cv(r:Nat)(v:Value):Blk->Blk
 |.cells T a=>.cells T (a.map (SV.cv0 r v))
 |.rowh T d n f c i u=>.rowh T d n f c i (u.map (SV.cv0 r v))
 |b=>b.uf r 0
def b4e(E:Env)(t p c:Nat)(st:St):Option (Value->St):=match CJ t st.ρ with
 |some ⟨_,none,.osl r⟩=>match st.own[r]?,st.own[p]? with
  |some (.row T b m g _),some (.pool d a k f h i j)=>if T=d/\b=a/\r≠p/\E.ak r=false/\E.ak p=false/\witP p c st.ρ=true then
   some λv=>⟨st.ρ.map λe=>{e with sv:=e.sv.cv2 r v},((st.own.map (Blk.cv r v)).set p (.pool T b (k+1) (λx=>if x=k then v else f x) (λx=>decide (x=k)||h x) (λx=>if x=k then m else i x) (λx=>if x=k then g else j x))).set r .dead⟩
   else none
  |_,_=>none
 |_=>none
def b62(E:Env)(k j p t l:Nat)(st:St):Option (Prop×St):=match CJ t st.ρ,st.own[k]?,st.own[p]? with
 |some ⟨_,none,.int _ i⟩,some (.row T o n f c),some (.pool b a m d e g h)=>if k≠p/\E.ak p=false/\witP p l st.ρ=true then
  some (i.toNat<n/\i.toNat<m/\e i.toNat=true/\(f i.toNat).getD j .any=.con (d i.toNat),
   ⟨st.ρ,(st.own.set k (.rowh T o n f c i.toNat ((f i.toNat).set j (.osl st.own.length)))).set p (.pool b a m d (λx=> !decide (x=i.toNat)&&e x) g h)++[.row b a (g i.toNat) (h i.toNat) none]⟩)
  else none
 |_,_,_=>none
def b5h(E:Env)(k j p d:Nat)(st:St):Option (Prop×St):=match st.own[k]?,st.own[p]? with
 |some (.row T g n f c),some (.pool _ a m h b i l)=>if k≠p/\E.ak p=false/\witP p d st.ρ=true then
  some (∀q,q<n->q<m->b q=true->(f q)[j]?=some (.con (h q)),
   ⟨st.ρ.map λe=>{e with sv:=e.sv.uf2 p 0},((st.own.map (Blk.uf p 0)).set k (.row T g n (λq=>if q<m/\b q=true then(f q).set j (.sl a (i q) (l q) none)else f q) c)).set p .dead⟩)
  else none
 |_,_=>none
section
variable{E:Env}{B0:Nat}{X A:Nat->Prop}{w0:World}{nt:Nat}{st:St}{a:Act}{w:World}{μ:Mu}
theorem c1d(h:SD E B0 X A w0 nt st a w μ){T:TypeId}{sz t:Nat}{m:St}(n:d3j T sz t st=some m):∃μ',SD E B0 X A w0 nt m a w μ':=by
 unfold d3j at n;split at n;rotate_left
 .cases n
 rename_i G k B H;simp only[Ju]at n;subst n;have I:=MY H;simp only at I;subst I;have z:=h.env _ _ H;unfold CZ at z;simp only at z;obtain⟨b,Zg,O⟩:∃b,μ k=some (.pointer (some ⟨b,0,none⟩))/\a.tmps.getD G undef=.pointer (some ⟨b,B,none⟩):=by
  generalize a.tmps.getD G undef=vv at z;cases z with
  |own l=>exact⟨_,l,rfl⟩
 let f:List Value:=[.pointer (some ⟨b,0,none⟩)]
 have P:=h.fresh st.own.length (J9 _);have d:∀{j x},μ j=some x->μ.set st.own.length (BR f []) j=some x:=λ{j x} c=>by
  unfold Mu.set;split
  .rename_i e;rw[e,P]at c;cases c
  .exact c
 have o:∀{j x},μ.set st.own.length (BR f []) j=some x->(j=st.own.length/\x=BR f [])\/(j≠st.own.length/\μ j=some x):=by
  intro j x c;unfold Mu.set at c;split at c
  .exact .inl ⟨‹_›,(K6 c).symm⟩
  .exact .inr ⟨‹_›,c⟩
 have nohas:∀b,¬CN (BR f []) b:=λb r=>by obtain⟨Q,u,C,_⟩:=OD.1 r;simp at C
 have J:∀b,held A (μ.set st.own.length (BR f [])) b->held A μ b:=by
  rintro b (r|⟨j,x,c,hx⟩)
  .exact .inl r
  .rcases o c with⟨_,rfl⟩|⟨_,y⟩
   .exact C9
   .exact .inr ⟨j,x,y,hx⟩
 have K:∀s v,D w (held A μ) μ s v->D w (held A (μ.set st.own.length (BR f []))) (μ.set st.own.length (BR f [])) s v:=λs v h=>h.shift J (λj x c _=>d c) (λj f F c=>⟨f,F,d c,λ_ _ h=>h⟩);have R:=EP.shift K h.env;refine⟨_,⟨λj x c=> ?_,λj L x S b c y hx M=> ?_,λj x b c hx=> ?_,h.own.bnd⟩,h.fr,h.base,λg s N=>⟨(h.glo g s N).1,K _ _ (h.glo g s N).2⟩,h.dfr,h.size,λq e l=> ?_,λj c=> ?_,λj x hx=>d (h.anc j x hx)⟩
 .rcases o c with⟨rfl,rfl⟩|⟨b9,y⟩
  .exact⟨.pool T sz 0 (λ_=>undef) (λ_=>false) (λ_=>0) (λ_ _=>[]),by simp only[Jm (J9 _),Ks];rfl,f,[],rfl,rfl,λi j i' L Q us' u u' b C=>by simp at C,λi U=>absurd U (Jq _)⟩
  .obtain⟨V,e,r⟩:=h.own.blk j x y;have W:j<st.own.length:=(J4.1 e).1;exact⟨V,by simp only[Jc W];exact e,r.shift J (λj x c _=>d c) (λj f F c=>⟨f,F,d c,λ_ _ h=>h⟩)⟩
 .rcases o c with⟨rfl,rfl⟩|⟨_,g1⟩<;>rcases o y with⟨rfl,rfl⟩|⟨_,Y⟩
  .rfl
  .exact C9
  .exact absurd M (nohas b)
  .exact h.own.inj j L x S b g1 Y hx M
 .rcases o c with⟨rfl,rfl⟩|⟨_,g1⟩
  .exact C9
  .exact h.own.rng j x b g1 hx
 .simp only[CJ]at l;split at l
  .cases l;unfold CZ;simp only;refine .fp ?_;rw[Iz rfl];exact⟨f,[],b,Ed,rfl,O⟩
  .exact R q e l
 .simp only[Ip]at c;unfold Mu.set;rw[J3 Dv];exact C7
theorem c3w(h:SD E B0 X A w0 nt st a w μ){p j:Nat}(c:witP p j st.ρ=true):∃e f,μ p=some (BR e f):=by
 unfold witP at c;split at c
 .rename_i k q i o l;simp only[Jb]at c;subst c;have d:=h.env _ _ l;unfold CZ at d;simp only at d;generalize a.tmps.getD k undef=vv at d;cases d with
  |fp g=>
   rw[Iz rfl]at g;obtain⟨e,f,b,m,_⟩:=g;exact⟨e,f,m⟩
 .cases c
end
section
variable{w:World}{H H':Nat->Prop}{μ μ':Mu}{r:Nat}{v0:Value}
theorem b4m(a:Drop r 0 H H' μ μ')(b:∀x,μ r=some x->x=v0){s:SV}{v:Value}(h:D w H μ s v):D w H' μ' (s.cv0 r v0) v:=by
 unfold SV.cv0;split
 .rename_i j;split
  .rename_i e;subst e;cases h with
   |osl h=>rw[<-b _ h];exact .con
  .rename_i e;exact Xh a h (by simp[SV.ment0,EJ];omega)
 .exact XX a h
theorem c6a(a:Drop r 0 H H' μ μ')(b:∀x,μ r=some x->x=v0){s:SV}{v:Value}(h:D w H μ s v):D w H' μ' (s.cv1 r v0) v:=by
 unfold SV.cv1;split
 .cases h with
  |agg c hl d=>
   refine .agg c E9 (λi s v hs e=> ?_);simp only[Ih]at hs;obtain⟨f,g,rfl⟩:=hs;exact b4m a b (d i f v g e)
 .exact b4m a b h
theorem c7t(a:Drop r 0 H H' μ μ')(b:∀x,μ r=some x->x=v0){s:SV}{v:Value}(h:D w H μ s v):D w H' μ' (s.cv2 r v0) v:=by
 unfold SV.cv2;split
 .cases h with
  |tup c hl d=>
   refine .tup c E9 (λi s v hs e=> ?_);simp only[Ih]at hs;obtain⟨f,g,rfl⟩:=hs;exact c6a a b (d i f v g e)
 .exact c6a a b h
theorem DK.cv(a:Drop r 0 H H' μ μ')(c:∀x,μ r=some x->x=v0){x:Value}{bl:Blk}(h:DK w H μ x bl):DK w H' μ' x (bl.cv r v0):=by
 unfold Blk.cv;split
 .obtain⟨b,d,rfl,e,hl,f,g⟩:=h;refine⟨b,d,rfl,e,E9,f,λi s v hs j=> ?_⟩;simp only[Ih]at hs;obtain⟨k,l,rfl⟩:=hs;exact b4m a c (g i k v l j)
 .exact OO.to (SV.cv0 r v0) (λ_ _=>rfl) (λs v m h=>HU a.less h m) (λs v h=>b4m a c h) h
 .exact h.drop a
theorem EP.cv(a:Drop r 0 H H' μ μ')(b:∀x,μ r=some x->x=v0){tmps:Array Value}{ρ:List Entry}(h:EP w H μ tmps ρ):EP w H' μ' tmps (ρ.map λe=>{e with sv:=e.sv.cv2 r v0}):=by
 intro t e c;rw[UU (f:=λ(e:Entry)=>{e with sv:=e.sv.cv2 r v0}) (λ_=>rfl),J7]at c;obtain⟨d,g,rfl⟩:=c;have:=h t d g;unfold CZ at this⊢;simp only;split at this
 .exact c7t a b this
 .exact⟨λi=>c7t a b (this.1 i),this.2⟩
end
section
variable{E:Env}{B0:Nat}{X A:Nat->Prop}{w0:World}{nt:Nat}{st:St}{a:Act}{w:World}{μ:Mu}
theorem c92{w:World}{H H':Nat->Prop}{μ μ':Mu}{x:Value}{T:TypeId}{sz n:Nat}{f:Nat->List SV}{c:Option Nat}(d:∀b,H' b->H b)(h:JI w H μ x T sz n f c):JI w H' μ' x T sz n f none:=by obtain⟨a,m,e,g,i,_,j,k⟩:=JI.shift (H':=H') (μ':=μ') (λs v l hs=>HU d hs l) h;exact⟨a,m,e,g,i,.inl rfl,j,k⟩
theorem b1z(h:SD E B0 X A w0 nt st a w μ){t p wt:Nat}{F:Value->St}(G:b4e E t p wt st=some F):∃(v:SlH) (μ':Mu),SD E B0 X A w0 nt (F v.val) a w μ':=by
 unfold b4e at G;split at G;rotate_left
 .cases G
 rename_i t' r g8;split at G;rotate_left
 .cases G
 rename_i T V m g W T' sz' k hd al ln ct Y hp;split at G;rotate_left
 .cases G
 rename_i hc;obtain⟨rfl,rfl,Z,Yk,gq,re⟩:=hc;obtain⟨o,d,B⟩:=c3w h re;simp only[Ju]at G;subst G;have hrlt:r<st.own.length:=(J4.1 Y).1;have rf:p<st.own.length:=(J4.1 hp).1;have I:∃u,μ r=some u:=by
  have N:=h.env t _ g8;unfold CZ at N;simp only at N;generalize a.tmps.getD t' undef=vv at N;cases N with
  |osl hq=>exact⟨_,hq⟩
 obtain⟨v,C⟩:=I;obtain⟨sv,Zi⟩:∃sv:SlH,v=sv.val:=by obtain⟨O,e,J⟩:=h.own.blk _ _ C;rw[Y]at e;cases e;obtain⟨b,c,e,_⟩:=J;exact⟨⟨b,_,c⟩,e⟩
 refine⟨sv,?_⟩;rw[<-Zi];have hP0:PoolOK w (held A μ) T V k hd al ln ct d:=by obtain⟨O,e,J⟩:=h.own.blk _ _ B;rw[hp]at e;cases e;obtain⟨ps1,qs1,f,J⟩:=J;obtain⟨rfl,rfl⟩:=Ow f;exact J
 let μ':Mu:=λj=>if j=p then some (BR o (d++[[v]]))else if j=r then none else μ j
 have hv:∀x,μ r=some x->x=v:=λx hx=>by rw[C]at hx;exact(K6 hx).symm
 have Zj:∀z,μ p=some z->z=BR o d/\PoolOK w (held A μ) T V k hd al ln ct d:=λz hz=>by rw[B]at hz;exact⟨(K6 hz).symm,hP0⟩
 have bh:∀{j x},μ' j=some x->(j=p/\∃u,μ r=some u/\μ p=some (BR o d)/\x=BR o (d++[[u]]))\/(j≠p/\j≠r/\μ j=some x):=by
  intro j x hj;by_cases f:j=p
  .subst f;simp only[μ',Ke,Ju]at hj;exact .inl ⟨rfl,v,C,B,hj.symm⟩
  .by_cases l:j=r
   .subst l;simp[μ',f]at hj
   .exact .inr ⟨f,l,by simpa[μ',f,l]using hj⟩
 have q:∀{j x b},μ' j=some x->CN x b->(j=p/\∃z,μ p=some z/\CN z b)\/(j=p/\∃z,μ r=some z/\CN z b)\/(j≠p/\j≠r/\μ j=some x):=by
  intro j x b hj hx;rcases bh hj with⟨rfl,u,g1,n,rfl⟩|h3
  .obtain⟨i,jj,K,u',f,l,e3⟩:=TE.1 hx;by_cases y:i<d.length
   .rw[Jc y]at f;exact .inl ⟨rfl,_,n,TE.2 ⟨i,jj,K,u',f,l,e3⟩⟩
   .rw[Jm Dv]at f;match br:i-d.length,f with
    |0,f=>
     simp at f;subst f;match jj,l with
     |0,l=>simp at l;subst l;exact .inr (.inl ⟨rfl,_,g1,.inl e3⟩)
     |z+1,l=>simp at l
    |z+1,f=>simp at f
  .exact .inr (.inr h3)
 have P:∀b,held A μ' b->held A μ b:=by
  rintro b (hb|⟨j,x,hj,hx⟩)
  .exact .inl hb
  .rcases q hj hx with⟨_,z,g1,n⟩|⟨_,z,g1,n⟩|⟨_,_,g1⟩
   .exact .inr ⟨p,z,g1,n⟩
   .exact .inr ⟨r,z,g1,n⟩
   .exact .inr ⟨j,x,g1,hx⟩
 have b7:∀u,μ r=some u->DK w (held A μ) μ u (.row T V m g W):=λu hu=>by obtain⟨O,e,J⟩:=h.own.blk _ _ hu;rw[Y]at e;cases e;exact J
 have di:Drop r 0 (held A μ) (held A μ') μ μ':=by
  refine⟨P,λj x hj hx T8=> ?_,λj ps qs hj hx=> ?_⟩
  .have f:j≠r:=λe=>Ga;have l:j≠p:=λe=>by subst e;exact T8 _ _ (Zj _ hx).1
   simp[μ',f,l,hx]
  .have f:j≠r:=λe=>Ga;by_cases l:j=p
   .subst l;obtain⟨H,Q⟩:=Ow (Zj _ hx).1;exact⟨o,d++[[v]],by simp[μ'],λ_ _ h=>by rw[<-H];exact h⟩
   .exact⟨ps,qs,by simp[μ',f,l,hx],λ_ _ h=>h⟩
 refine⟨μ',⟨λj x hj=> ?_,λj j' x x' b hj bm hx R=> ?_,λj x b hj hx=> ?_,h.own.bnd⟩,h.fr,h.base,λg s hg=>⟨(h.glo g s hg).1,HU P (h.glo g s hg).2 (h.glo g s hg).1⟩,h.dfr,h.size,h.env.cv di hv,λj hj=> ?_,λj x hx=> ?_⟩
 .rcases bh hj with⟨rfl,u,g1,n,rfl⟩|⟨f,l,g1⟩
  .obtain⟨_,L⟩:=Zj _ n;obtain rfl:v=u:=(hv _ g1).symm;refine⟨_,by rw[Jh Z,K4 (by simpa using rf)],?_⟩;refine⟨o,d++[[v]],rfl,by simp[L.ql],λi1 j1 i2 j2 us1 us2 u1 u2 b k1 k2 k3 k4 k5 k6=> ?_,λi y=> ?_⟩
   .have M:∀{i:Nat} {K:List Value},(d++[[v]])[i]?=some K->(d[i]?=some K)\/(i=d.length/\K=[v]):=by
     intro i K y;by_cases S:i<d.length
     .rw[Jc S]at y;exact .inl y
     .rw[Jm Dv]at y;match br:i-d.length,y with
      |0,y=>simp at y;exact .inr ⟨Dv,y.symm⟩
      |z+1,y=>simp at y
    have one:∀{j:Nat} {u:Value},[v][j]?=some u->u=v:=by
     intro j u hj;match j,hj with
     |0,hj=>simpa using hj.symm
     |z+1,hj=>simp at hj
    rcases M k1 with H|⟨H,rfl⟩<;>rcases M k4 with q4|⟨q4,rfl⟩
    .exact L.nd i1 j1 i2 j2 us1 us2 u1 u2 b H k2 k3 q4 k5 k6
    .have:=one k5;subst this;exact absurd (h.own.inj j r _ _ b n g1 (TE.2 ⟨_,_,_,_,H,k2,k3⟩) (.inl k6)) (Ne.symm Z)
    .have:=one k2;subst this;exact absurd (h.own.inj j r _ _ b n g1 (TE.2 ⟨_,_,_,_,q4,k5,k6⟩) (.inl k3)) (Ne.symm Z)
    .omega
   .by_cases U:i=k
    .subst U;refine .inr ⟨Dx,by rw[<-L.ql];simp,?_⟩;simp only[Ke];exact c92 P (b7 _ g1)
    .have Q7:=L.keep (ps:=o) (H':=held A μ') ⟨J9 _,λ_ _ _=>rfl,λb _=>P b⟩ (λ_ _=>rfl);have S:i<d.length:=by rw[L.ql];omega
     rcases Q7.mem i Dv with⟨H,Q⟩|⟨H,Q,q3⟩
     .exact .inl ⟨by simp[U,H],by rw[Jc S];exact Q⟩
     .refine .inr ⟨by simp[H],by rw[Jc S,J3 U];exact Q,?_⟩;simp only[J3 U];exact q3
  .obtain⟨O,e,hb⟩:=h.own.blk j x g1;exact⟨O.cv r v,by rw[Jh (Ne.symm l),Jh (Ne.symm f),Jr,e];rfl,hb.cv di hv⟩
 .rcases q hj hx with⟨f,z,g1,n⟩|⟨f,z,g1,n⟩|⟨f,e1',g1⟩<;>rcases q bm R with⟨l,z',k1,k2⟩|⟨l,z',k1,k2⟩|⟨l,e2',k1⟩
  .omega
  .omega
  .exact absurd (h.own.inj j' p x' z b k1 g1 R n) l
  .omega
  .omega
  .exact absurd (h.own.inj j' r x' z b k1 g1 R n) e2'
  .exact absurd (h.own.inj j p x z' b g1 k1 hx k2) f
  .exact absurd (h.own.inj j r x z' b g1 k1 hx k2) e1'
  .exact h.own.inj j j' x x' b g1 k1 hx R
 .rcases q hj hx with⟨_,z,g1,n⟩|⟨_,z,g1,n⟩|⟨_,_,g1⟩
  .exact h.own.rng p z b g1 n
  .exact h.own.rng r z b g1 n
  .exact h.own.rng j x b g1 hx
 .simp only[Kj,Jv]at hj;have f:j≠p:=Dv;have l:j≠r:=Dv;simp[μ',f,l,h.fresh j hj]
 .have f:j≠p:=λe=>Gz;have l:j≠r:=λe=>by subst e;rw[Env.an_ak hx]at Yk;cases Yk
  simp[μ',f,l,h.anc j x hx]
theorem b75(h:SD E B0 X A w0 nt st a w μ){k j p t wt:Nat}{V:Prop}{W:St}(N:b62 E k j p t wt st=some (V,W))(cw:V):∃μ',SD E B0 X A w0 nt W a w μ':=by
 unfold b62 at N;split at N;rotate_left
 .cases N
 rename_i t' ki i T sz n f c T' O m G al ln ct g8 hk hp;split at N;rotate_left
 .cases N
 rename_i hc;obtain⟨bv,gq,re⟩:=hc;obtain⟨B,F,l⟩:=c3w h re;simp only[Id]at N;obtain⟨rfl,rfl⟩:=N;obtain⟨bg,zi,Zk,H⟩:=cw;generalize i.toNat=i at*;have m6:k<st.own.length:=(J4.1 hk).1;have rf:p<st.own.length:=(J4.1 hp).1;let L:=st.own.length
 have Zm:μ L=none:=h.fresh _ (J9 _);have df:∃s,(f i)[j]?=some s/\s=.con (G i):=by
  cases hs:(f i)[j]? with
  |none=>rw[Ix,hs]at H;cases H
  |some s=>
   rw[Ix,hs,Kn]at H;exact⟨_,rfl,H⟩
 obtain⟨s0,bu,rfl⟩:=df;have ji:j<(f i).length:=(J4.1 bu).1;have S:PoolOK w (held A μ) T' O m G al ln ct F:=by obtain⟨bl,e,ba⟩:=h.own.blk _ _ l;rw[hp]at e;cases e;obtain⟨ps1,qs1,y,ba⟩:=ba;obtain⟨rfl,rfl⟩:=Ow y;exact ba
 have bj:i<F.length:=by rw[S.ql];exact zi
 have Q8:F[i]?=some [G i]/\JI w (held A μ) (λ_=>none) (G i) T' O (ln i) (ct i) none:=by
  rcases S.mem i zi with⟨g1,_⟩|⟨_,g2,r⟩
  .rw[Zk]at g1;cases g1
  .exact⟨g2,r⟩
 let μ':Mu:=λq=>if q=p then some (BR B (F.set i []))else if q=L then some (G i)else μ q
 have hpL:¬L=p:=Dv;have m1:μ' p=some (BR B (F.set i [])):=by simp[μ']
 have m2:μ' L=some (G i):=by simp[μ',hpL]
 have Y:∀q,q≠p->q≠L->μ' q=μ q:=λq h1 h2=>by simp[μ',h1,h2]
 have bh:∀{q x},μ' q=some x->(q=p/\x=BR B (F.set i []))\/(q=L/\x=G i)\/(q≠p/\q≠L/\μ q=some x):=by
  intro q x d;by_cases y:q=p
  .subst y;rw[m1]at d;exact .inl ⟨rfl,(K6 d).symm⟩
  .by_cases C:q=L
   .subst C;rw[m2]at d;exact .inr (.inl ⟨rfl,(K6 d).symm⟩)
   .rw[Y q y C]at d;exact .inr (.inr ⟨y,C,d⟩)
 have j8:∃a n m,G i=.slice a n m:=by obtain⟨a,m,e,_⟩:=Q8.2;exact⟨_,_,_,e⟩
 have z:∀{q x b},μ' q=some x->CN x b->(∃(J U:Nat) (K:List Value) (u:Value),F[J]?=some K/\K[U]?=some u/\FD u=some b/\((q=p/\J≠i)\/(q=L/\J=i)))\/(q≠p/\q≠L/\μ q=some x):=by
  intro q x b d hx;rcases bh d with⟨rfl,rfl⟩|⟨rfl,rfl⟩|h3
  .obtain⟨J,U,K,u,g1,g2,r⟩:=TE.1 hx;obtain⟨y,C⟩:=VI g1 g2;exact .inl ⟨J,U,K,u,C,g2,r,.inl ⟨rfl,y⟩⟩
  .obtain⟨a,n,m,e⟩:=j8;rw[e]at hx;refine .inl ⟨i,0,_,G i,Q8.1,rfl,?_,.inr ⟨rfl,rfl⟩⟩;rw[e];exact Sv.1 hx
  .exact .inr h3
 have ph:∀{J U K u b},F[J]?=some K->K[U]?=some u->FD u=some b->CN (BR B F) b:=λg1 g2 r=>TE.2 ⟨_,_,_,_,g1,g2,r⟩;have bb:∀b,held A μ' b->held A μ b:=by
  rintro b (hb|⟨q,x,d,hx⟩)
  .exact .inl hb
  .rcases z d hx with⟨J,U,K,u,g1,g2,r,_⟩|⟨_,_,g1⟩
   .exact .inr ⟨p,_,l,ph g1 g2 r⟩
   .exact .inr ⟨q,x,g1,hx⟩
 have Z:∀q x,μ q=some x->(∀ps F,x≠BR ps F)->μ' q=some x:=by
  intro q x d hx;have y:q≠p:=λe=>by subst e;rw[l]at d;exact hx _ _ (K6 d).symm
  have C:q≠L:=λe=>by subst e;rw[Zm]at d;cases d
  rw[Y q y C];exact d
 have hf:∀q P qs2,μ q=some (BR P qs2)->∃ps' qs',μ' q=some (BR ps' qs')/\∀(i:Nat) (p:Value),P[i]?=some p->ps'[i]?=some p:=by
  intro q P qs2 d;by_cases e:q=p
  .subst e;rw[l]at d;obtain⟨rfl,rfl⟩:=Ow (K6 d);exact⟨_,_,m1,λ_ _ h=>h⟩
  .have C:q≠L:=λe=>by subst e;rw[Zm]at d;cases d
   exact⟨_,_,(Y q e C).trans d,λ_ _ h=>h⟩
 have hD:∀s v,D w (held A μ) μ s v->D w (held A μ') μ' s v:=λs v h=>h.shift bb Z hf;refine⟨μ',⟨λq x d=> ?_,λq q' x x' b d de hx cm=> ?_,λq x b d hx=> ?_,h.own.bnd⟩,h.fr,h.base,λg s hg=>⟨(h.glo g s hg).1,hD _ _ (h.glo g s hg).2⟩,h.dfr,h.size,h.env.shift hD,λq d=> ?_,λq x hx=> ?_⟩
 .rcases bh d with⟨rfl,rfl⟩|⟨rfl,rfl⟩|⟨y,C,g1⟩
  .refine⟨_,by rw[Jc (by simpa using rf),K4 (by simpa using rf)],?_⟩;refine⟨B,_,rfl,by simp[S.ql],λQ j1 i2 M I R u1 u2 b k1 k2 k3 k4 k5 k6=> ?_,λQ dv=> ?_⟩
   .exact S.nd Q j1 i2 M I R u1 u2 b (VI k1 k2).2 k2 k3 (VI k4 k5).2 k5 k6
   .have Q7:=S.keep (ps:=B) (H':=held A μ') ⟨J9 _,λ_ _ _=>rfl,λb _=>bb b⟩ (λ_ _=>rfl);by_cases e:i=Q
    .subst e;exact .inl ⟨Dx,H0⟩
    .rcases Q7.mem Q dv with⟨g1,g2⟩|⟨g1,g2,r⟩
     .exact .inl ⟨by simp[g1],H1⟩
     .exact .inr ⟨by simp[g1,Ne.symm e],H1,r⟩
  .refine⟨.row T' O (ln i) (ct i) none,by rw[Jm (by simp[L])];simp[L],?_⟩;exact c92 bb Q8.2
  .obtain⟨bl,e,hb⟩:=h.own.blk q x g1;have wi:q<st.own.length:=(J4.1 e).1;by_cases ek:q=k
   .subst ek;rw[hk]at e;cases e;refine⟨.rowh T sz n f c i ((f i).set j (.osl L)),by rw[Jc (by simpa using wi),Jh (Ne.symm y),K4 wi],?_⟩;obtain⟨aa,mm,rfl,hn,hm,ge,hl,be⟩:=hb;rcases be with rfl|⟨b,o,vs,c7,rfl,hh,ho,h1,dj⟩
    .omega
    refine⟨b,o,mm,vs,rfl,hn,hm,ge,bg,by simpa using(hl i bg).1,λq2 kg _=>hl q2 kg,hh,ho,h1,λq2 M s v kg _ hs H=>hD _ _ (dj q2 M s v kg hs H),λM s v hs H=> ?_⟩;by_cases ej:j=M
    .subst ej;rw[K4 ji]at hs;cases hs;have:=dj i j _ v bg bu H;cases this;obtain⟨a1,n1,m1',e4⟩:=j8;rw[e4]at m2;rw[e4];exact .osl m2
    .rw[Jh ej]at hs;exact hD _ _ (dj i M s v bg hs H)
   .exact⟨bl,by rw[Jc (by simpa using wi),Jh (Ne.symm y),Jh (Ne.symm ek)];exact e,hb.shift bb Z hf⟩
 .rcases z d hx with⟨Q,j1,I,u1,g1,g2,r,g4⟩|⟨g1,g2,r⟩<;>rcases z de cm with⟨i2,M,R,u2,k1,k2,k3,k4⟩|⟨k1,k2,k3⟩
  .have:=S.nd Q j1 i2 M I R u1 u2 b g1 g2 r k1 k2 k3;omega
  .exact absurd (h.own.inj q' p x' _ b k3 l cm (ph g1 g2 r)) k1
  .exact absurd (h.own.inj q p x _ b r l hx (ph k1 k2 k3)) g1
  .exact h.own.inj q q' x x' b r k3 hx cm
 .rcases z d hx with⟨Q,j1,I,u1,g1,g2,r,_⟩|⟨_,_,r⟩
  .exact h.own.rng p _ b l (ph g1 g2 r)
  .exact h.own.rng q x b r hx
 .simp only[Ip,Kj]at d;rw[Y q Dv (by simp only[L];omega)];exact h.fresh q Dv
 .have y:q≠p:=λe=>Gz;have:=h.anc q x hx;have C:q≠L:=λe=>by subst e;rw[Zm]at this;cases this
  rw[Y q y C];exact this
theorem b5c(h:SD E B0 X A w0 nt st a w μ){k j p wt:Nat}{C:Prop}{F:St}(t:b5h E k j p wt st=some (C,F))(cw:C):∃μ',SD E B0 X A w0 nt F a w μ':=by
 unfold b5h at t;split at t;rotate_left
 .cases t
 rename_i T sz n f c T' G m L U V W Y Z;split at t;rotate_left
 .cases t
 rename_i B;obtain⟨bv,gq,re⟩:=B;simp only[Id]at t;obtain⟨rfl,rfl⟩:=t;obtain⟨M,I,l⟩:=c3w h re;have hP:PoolOK w (held A μ) T' G m L U V W I:=by obtain⟨bl,e,N⟩:=h.own.blk _ _ l;rw[Z]at e;cases e;obtain⟨ps1,qs1,O,N⟩:=N;obtain⟨rfl,rfl⟩:=Ow O;exact N
 have m6:k<st.own.length:=(J4.1 Y).1;have rf:p<st.own.length:=(J4.1 Z).1;have P:∀q,q≠p->μ.drop p q=μ q:=λq e=>by simp[Mu.drop,e]
 have u:∀{q x},μ.drop p q=some x->q≠p/\μ q=some x:=by
  intro q x d;simp only[Mu.drop]at d;split at d
  .cases d
  .exact⟨‹_›,d⟩
 have J:∀b,held A (μ.drop p) b->held A μ b:=by
  rintro b (y|⟨q,x,d,hx⟩)
  .exact .inl y
  .exact .inr ⟨q,x,(u d).2,hx⟩
 have di:Drop p 0 (held A μ) (held A (μ.drop p)) μ (μ.drop p):=by
  refine⟨J,λq x hj hx _=> ?_,λq ps I hj hx=> ?_⟩
  .have e:q≠p:=λe=>Ga;rw[P q e];exact hx
  .have e:q≠p:=λe=>Ga;exact⟨ps,I,by rw[P q e];exact hx,λ_ _ h=>h⟩
 have z:∀i,i<m->U i=true->D w (held A (μ.drop p)) (μ.drop p) (.sl G (V i) (W i) none) (L i):=by
  intro i r ha;rcases hP.mem i r with⟨g1,_⟩|⟨_,g2,g3⟩
  .rw[ha]at g1;cases g1
  .refine d1p J (λb y=> ?_) g3;have Q:FD (L i)=some b:=by
    obtain⟨aa,mm,e,_⟩:=g3;rw[e]at y⊢;exact Sv.1 y
   have c8:CN (BR M I) b:=TE.2 ⟨i,0,_,_,g2,rfl,Q⟩;rintro(hA|⟨q,x,d,hx⟩)
   .exact(h.own.rng p _ b l c8).2.1 hA
   .exact(u d).1 (h.own.inj q p x _ b (u d).2 l hx c8)
 refine⟨μ.drop p,⟨λq x d=> ?_,λq q' x x' b d de hx cm=>h.own.inj q q' x x' b (u d).2 (u de).2 hx cm,λq x b d hx=>h.own.rng q x b (u d).2 hx,h.own.bnd⟩,h.fr,h.base,λg s R=>⟨(h.glo g s R).1,HU J (h.glo g s R).2 (h.glo g s R).1⟩,h.dfr,h.size,EP.drop di h.env,λq d=> ?_,λq x hx=> ?_⟩
 .obtain⟨Ym,d⟩:=u d;obtain⟨bl,e,y⟩:=h.own.blk q x d;by_cases ek:q=k
  .subst ek;rw[Y]at e;cases e;refine⟨_,by rw[Jh (Ne.symm Ym),K4 (by simpa using m6)],?_⟩;obtain⟨aa,mm,rfl,hn,hm,ge,K,be⟩:=y;refine⟨aa,mm,rfl,hn,hm,ge,λi r=> ?_,?_⟩
   .dsimp only;split
    .refine⟨by rw[Kj];exact(K i r).1,Ja.2 λs hs=> ?_⟩;rcases M3 hs with hs|rfl
     .exact Ja.1 (K i r).2 s hs
     .rfl
    .exact K i r
   .rcases be with rfl|⟨b,o,vs,c7,rfl,hh,ho,h1,dj⟩
    .exact .inl rfl
    .refine .inr ⟨b,o,vs,c7,rfl,hh,ho,h1,λi S s v r hs hv=> ?_⟩;have H:∀s,(f i)[S]?=some s->D w (held A (μ.drop p)) (μ.drop p) s v:=λs hs=>HU J (dj i S s v r hs hv) (Ja.1 (K i r).2 s (J6 hs));dsimp only at hs;split at hs
     .rename_i B;by_cases ej:j=S
      .subst ej;have df:=cw i r B.1 B.2;rw[K4 (J4.1 df).1]at hs;cases hs;have:=dj i j _ v r df hv;cases this;exact z i B.1 B.2
      .rw[Jh ej]at hs;exact H s hs
     .exact H s hs
  .exact⟨bl.uf p 0,by rw[Jh (Ne.symm Ym),Jh (Ne.symm ek),Jr,e];rfl,y.drop di⟩
 .simp only[Kj,Jv]at d;have:=h.fresh q d;simp[Mu.drop,this]
 .have O:q≠p:=λe=>Gz;rw[P q O];exact h.anc q x hx
end
def Pg(n:Nat)(K:Nat->Prop):Prop:=Ml n K
theorem d58(n:Nat)(K:Nat->Prop):Pg n K=K n:=b77 n K
def SV.f0(s:SV)(K:SV->Prop):Prop:=match s with
 |.int k n=>K (.int k n)
 |.bool b=>K (.bool b)
 |.con v=>K (.con v)
 |.own k o=>Pg k λk=>Pg o λo=>K (.own k o)
 |.osl k=>Pg k λk=>K (.osl k)
 |.oel k a i o=>Pg k λk=>Pg o λo=>K (.oel k a i o)
 |.sl a n f c=>K (.sl a n f c)
 |.rel a n f i o=>Pg o λo=>K (.rel a n f i o)
 |.agg d=>K (.agg d)
 |.tup d=>K (.tup d)
 |.clo f d=>K (.clo f d)
 |.omp k=>Pg k λk=>K (.omp k)
 |.mp T e h v=>K (.mp T e h v)
 |.fp g k i o=>Pg k λk=>Pg o λo=>K (.fp g k i o)
 |.ub p q=>K (.ub p q)
 |.any=>K .any
def fL(f:SV->(SV->Prop)->Prop):List SV->(List SV->Prop)->Prop
 | [],K=>K []
 |s::r,K=>f s λa=>fL f r λb=>K (a::b)
def SV.f1(s:SV)(K:SV->Prop):Prop:=match s with
 |.agg b=>fL SV.f0 b λa=>K (.agg a)
 |.clo f b=>fL SV.f0 b λa=>K (.clo f a)
 |s=>s.f0 K
def SV.f2(s:SV)(K:SV->Prop):Prop:=match s with
 |.tup b=>fL SV.f1 b λa=>K (.tup a)
 |s=>s.f1 K
def fG(g:Option (Nat×Bool))(K:Option (Nat×Bool)->Prop):Prop:=match g with
 |none=>K none
 |some (n,true)=>K (some (n,true))
 |some (n,false)=>K (some (n,false))
def fE:List Entry->(List Entry->Prop)->Prop
 | [],K=>K []
 |⟨n,g,s⟩::r,K=>fG g λa=>s.f2 λb=>fE r λc=>K (⟨n,a,b⟩::c)
def fB:List Blk->(List Blk->Prop)->Prop
 | [],K=>K []
 |.cells T e::r,K=>fL SV.f0 e λd=>fB r λa=>K (.cells T d::a)
 |.row T b n f c::r,K=>fB r λa=>K (.row T b n f c::a)
 |.map T g h v::r,K=>fB r λa=>K (.map T g h v::a)
 |.fam T j n l F::r,K=>fB r λa=>K (.fam T j n l F::a)
 |.pmap T k h v::r,K=>fB r λa=>K (.pmap T k h v::a)
 |.rowh T b n f c i u::r,K=>fL SV.f0 u λm=>fB r λa=>K (.rowh T b n f c i m::a)
 |.pool T b n o p q s::r,K=>fB r λa=>K (.pool T b n o p q s::a)
 |.dead::r,K=>fB r λa=>K (.dead::a)
def St.force(st:St)(K:St->Prop):Prop:=match st with
 |⟨c,own⟩=>fE c λb=>fB own λa=>K ⟨b,a⟩
theorem SV.f0_eq(s:SV)(K:SV->Prop):s.f0 K=K s:=by cases s<;>simp only[SV.f0,d58]
theorem d69{f:SV->(SV->Prop)->Prop}(a:∀s K,f s K=K s):∀(l:List SV) (K:List SV->Prop),fL f l K=K l
 | [],_=>rfl
 |s::r,K=>by simp only[fL,a,d69 a r]
theorem SV.f1_eq(s:SV)(K:SV->Prop):s.f1 K=K s:=by cases s<;>simp only[SV.f1,SV.f0_eq,d69 SV.f0_eq]
theorem SV.f2_eq(s:SV)(K:SV->Prop):s.f2 K=K s:=by cases s<;>simp only[SV.f2,SV.f1_eq,d69 SV.f1_eq]
theorem d9h(g:Option (Nat×Bool))(K:Option (Nat×Bool)->Prop):fG g K=K g:=by
 match g with
 |none=>rfl
 |some (n,true)=>rfl
 |some (n,false)=>rfl
theorem f5y:∀(l:List Entry) (K:List Entry->Prop),fE l K=K l
 | [],_=>rfl
 |⟨n,g,s⟩::r,K=>by simp only[fE,d9h,SV.f2_eq,f5y r]
theorem VL:∀(l:List Blk) (K:List Blk->Prop),fB l K=K l
 | [],_=>rfl
 |.cells T cs::r,K=>by simp only[fB,d69 SV.f0_eq,VL r]
 |.row T a n f c::r,K=>Fg
 |.map T ag h v::r,K=>Fg
 |.fam T Ts n bt F::r,K=>Fg
 |.pmap T k h v::r,K=>Fg
 |.rowh T a n f c i u::r,K=>by simp only[fB,d69 SV.f0_eq,VL r]
 |.pool T a n hd al ln ct::r,K=>Fg
 |.dead::r,K=>Fg
theorem St.force_eq(st:St)(K:St->Prop):st.force K=K st:=by cases st;simp only[St.force,f5y,VL]
def fE1:List Entry->(List Entry->Prop)->Prop
 | [],K=>K []
 |⟨n,g,s⟩::r,K=>fG g λa=>s.f2 λb=>match r with
  | []=>K [⟨n,a,b⟩]
  |x::c=>K (⟨n,a,b⟩::x::c)
theorem fE1_eq(l:List Entry)(K:List Entry->Prop):fE1 l K=K l:=by
 match l with
 | []=>rfl
 |⟨n,g,s⟩::[]=>simp only[fE1,d9h,SV.f2_eq]
 |⟨n,g,s⟩::x::xs=>simp only[fE1,d9h,SV.f2_eq]
def fB1:List Blk->(List Blk->Prop)->Prop
 | [],K=>K []
 |b::r,K=>K (b::r)
theorem fB1_eq(l:List Blk)(K:List Blk->Prop):fB1 l K=K l:=by cases l<;>rfl
def cheap(o:Oper):Bool:=match o.op with
 |.store _ _ _|.alloc _|.box _ _|.buildSlice _ _ _|.makeSlice _ _ _|.makeMap _ _|.mapUpdate _ _ _ _|.insert _ _ _ _|.call _|.slice _ _ _ _ _=>false
 |_=>true
def St.forceO(o:Oper)(st:St)(K:St->Prop):Prop:=match cheap o with
 |true=>match st with
  |⟨c,own⟩=>fE1 c λb=>fB1 own λa=>K ⟨b,a⟩
 |false=>st.force K
theorem St.forceO_eq(o:Oper)(st:St)(K:St->Prop):st.forceO o K=K st:=by
 unfold St.forceO;split
 .cases st;simp only[fE1_eq,fB1_eq]
 .exact St.force_eq st K
def KR(p:Prop):Prop:=p
theorem KR.mk{p:Prop}(h:p):KR p:=h
theorem KR.out{p:Prop}(h:KR p):p:=h
attribute [irreducible] KR
def Qb(a b:Option Entry):Prop:=a=b
theorem Qb.mk{a b:Option Entry}(h:a=b):Qb a b:=h
theorem Qb.out{a b:Option Entry}(h:Qb a b):a=b:=h
attribute [irreducible] Qb
def ppOf(E:Env)(o:Oper):Option (Nat×Nat×Nat):=match o.dst with
 |some d=>match E.gr (2000+d)with
  |.poolPut t p a::_=>some (t,p,a)
  |_=>none
 |none=>none
def SZ(E:Env)(o:Oper)(K:St->Prop)(st:St):Prop:=match ppOf E o with
 |none=>K st
 |some (t,p,a)=>match b4e E t p a st with
  |some F=>QU λv=>(F v.val).force K
  |none=>False
theorem b1t{E:Env}{e:Nat}{X A:Nat->Prop}{f:World}{g:Nat}{st:St}{a:Act}{w:World}{μ:Mu}{o:Oper}{K:St->Prop}(h:SD E e X A f g st a w μ)(c:SZ E o K st):∃d b,SD E e X A f g d a w b/\K d:=by
 unfold SZ at c;split at c
 .exact⟨st,μ,h,c⟩
 .split at c
  .rename_i F j;obtain⟨v,b,k⟩:=b1z h j;have i:=c.out v;rw[St.force_eq]at i;exact⟨F v.val,b,k,i⟩
  .exact c.elim
theorem d23{E:Env}{o:Oper}{K b:St->Prop}{st:St}(c:∀st,K st->b st)(a:SZ E o K st):SZ E o b st:=by
 unfold SZ at a⊢;split at a
 .exact c _ a
 .split at a
  .rename_i F he;refine QU.mk λv=> ?_;have d:=a.out v;rw[St.force_eq]at d⊢;exact c _ d
  .exact a.elim
def SK(E:Env)(b:Nat)(ops:Array Oper)(K:St->Prop)(o:Oper)(st:St):Prop:=match f0a E b ops st o with
 |some (p,a)=>KR p/\a.forceO o K
 |none=>False
theorem d8n{E:Env}{b:Nat}{ops:Array Oper}{o:Oper}{K c:St->Prop}(d:∀st,K st->c st)(st:St)(a:SK E b ops K o st):SK E b ops c o st:=by
 unfold SK at a⊢;split at a
 .rw[St.forceO_eq]at a⊢;exact⟨a.1,d _ a.2⟩
 .exact a.elim
noncomputable def Oe(E:Env)(a:Nat)(ops:Array Oper)(K:St->Prop)(l:List Oper):St->Prop:=
 List.rec (motive:=λ_=>St->Prop) K (λo _ k b=>SZ E o (SK E a ops k o) b) l
theorem b4h{E:Env}{a:Nat}{ops:Array Oper}{K:St->Prop}{st:St}:Oe E a ops K [] st=K st:=rfl
theorem b2f{E:Env}{a:Nat}{ops:Array Oper}{K:St->Prop}{o:Oper}{r:List Oper}{st:St}:Oe E a ops K (o::r) st=SZ E o (SK E a ops (Oe E a ops K r) o) st:=rfl
def GL:Option Nat->Option Nat->Prop
 |_,none=>True
 |c,some m=>c=some m
def SV.lf:SV->SV->Prop
 |_,.any=>True
 |.int k n,.int d m=>if k=d then n=m else False
 |.bool b,.bool c=>b=c
 |.ub p q,.ub y z=>(p->y)/\(q->z)
 |.con v,.con s=>v=s
 |.own k o,.own d e=>if k=d/\o=e then True else False
 |.osl k,.osl d=>if k=d then True else False
 |.oel k g i o,.oel d a t e=>k=d/\g=a/\i=t/\o=e
 |.sl g n f c,.sl a l r u=>n=l/\(if g=a then True else n=0)/\GL c u/\∀i,i<n->f i=r i
 |.con (.slice none 0 0),.sl _ l _ u=>l=0/\GL (some 0) u
 |.rel g n f i o,.rel a l r t e=>g=a/\n=l/\i=t/\o=e/\∀j,j<n->f j=r j
 |.clo f A,.clo r w=>f=r/\A=w
 |.omp k,.omp d=>if k=d then True else False
 |.mp T B h v,.mp C x E s=>(T=C/\B=x)/\(∀q,h q=E q)/\∀q,h q=true->v q=s q
 |_,_=>False
def lfL:List SV->List SV->Prop
 | [],[]=>True
 |s::r,t::q=>s.lf t/\lfL r q
 |_,_=>False
def FU(xs a:List SV):Prop:=xs=a\/lfL xs a
theorem RZ{n:Nat}{f a:Nat->List SV}(h:∀i,i<n->f i=a i):∀i,i<n->FU (f i) (a i):=λi b=>.inl (h i b)
def SV.le0:SV->SV->Prop
 |_,.any=>True
 |.int k n,.int a m=>if k=a then n=m else False
 |.bool b,.bool c=>b=c
 |.ub p q,.ub z A=>(p->z)/\(q->A)
 |.con v,.con u=>v=u
 |.own k o,.own a g=>if k=a/\o=g then True else False
 |.osl k,.osl a=>if k=a then True else False
 |.oel k l i o,.oel a d r g=>k=a/\l=d/\i=r/\o=g
 |.sl l n f c,.sl d s t w=>n=s/\(if l=d then True else n=0)/\GL c w/\∀i,i<n->FU (f i) (t i)
 |.con (.slice none 0 0),.sl _ s _ w=>s=0/\GL (some 0) w
 |.rel l n f i o,.rel d s t r g=>l=d/\n=s/\i=r/\o=g/\∀j,j<n->f j=t j
 |.clo f B,.clo t x=>f=t/\B=x
 |.omp k,.omp a=>if k=a then True else False
 |.mp T C h v,.mp E y F u=>(T=E/\C=y)/\(∀q,h q=F q)/\∀q,h q=true->v q=u q
 |.fp G k i o,.fp e a r g=>(if k=a/\o=g then True else False)/\G=e/\(e=true->i=r)
 |.con (.pointer none),.fp e _ _ _=>e=false
 |_,_=>False
def BH:List SV->List SV->Prop
 | [],[]=>True
 |s::r,t::q=>s.le0 t/\BH r q
 |_,_=>False
def SV.le1:SV->SV->Prop
 |.agg b,.agg a=>BH b a
 |s,t=>s.le0 t
def le1L:List SV->List SV->Prop
 | [],[]=>True
 |s::r,t::q=>s.le1 t/\le1L r q
 |_,_=>False
def SV.le2:SV->SV->Prop
 |.tup b,.tup a=>le1L b a
 |s,t=>s.le1 t
section
variable{w:World}{H:Nat->Prop}{μ:Mu}
theorem XI{c b:Option Nat}{m:Nat}(h:GL c b)(a:c=none\/c=some m):b=none\/b=some m:=by
 cases b with
 |none=>exact .inl rfl
 |some k=>
  simp only[GL]at h;subst h;rcases a with a|a
  .cases a
  .exact .inr a
theorem f0n{s t:SV}{v:Value}(h:D w H μ s v)(d:s.lf t):D w H μ t v:=by
 unfold SV.lf at d;split at d
 .exact .any
 .split at d
  .subst_vars;exact h
  .exact d.elim
 .subst d;exact h
 .cases h with
  |ub k h2=>exact .ub (λe=>d.1 (k e)) (λe=>d.2 (h2 e))
 .subst d;exact h
 .split at d
  .rename_i e;obtain⟨rfl,rfl⟩:=e;exact h
  .exact d.elim
 .split at d
  .subst_vars;exact h
  .exact d.elim
 .obtain⟨rfl,rfl,rfl,rfl⟩:=d;exact h
 .rename_i z n f c l n' f' c';obtain⟨rfl,x,hc,hf⟩:=d;cases h with
  |sl a b o m g hm hx ge u hl hd=>
   by_cases y:n=0
   .subst y;exact Db
   .have e:z=l:=by
     split at x
     .assumption
     .exact absurd x y
    subst e;exact .sl a b o m g hm hx (XI hc ge) u (λi hi=>Gb) (λi j s hi hs=>hd i j s hi Gc)
 .obtain⟨rfl,hc⟩:=d;cases h;exact Dc
 .obtain⟨rfl,rfl,rfl,rfl,hf⟩:=d;cases h with
  |rel b o g hi hb u hl hd=>exact .rel b o g hi hb u (λi hi=>Gb) (λi j s hi hs=>hd i j s hi Gc)
 .obtain⟨rfl,rfl⟩:=d;exact h
 .split at d
  .subst_vars;exact h
  .exact d.elim
 .obtain⟨⟨rfl,rfl⟩,k,h2⟩:=d;cases h with
  |mp r g hb hm hl hd=>
   have e:=Mw k;subst e;exact Dd
 .exact d.elim
theorem d17:∀{cs a:List SV},lfL cs a->cs.length=a.length/\∀(i:Nat) (t:SV),a[i]?=some t->∃s,cs[i]?=some s/\s.lf t
 | [],[],_=>⟨rfl,λi t h=>E6⟩
 |s::r,t::q,h=>by
  obtain⟨h1,b⟩:=d17 h.2;refine⟨En,λi c ht=> ?_⟩;match i with
  |0=>simp at ht;subst ht;exact⟨s,rfl,h.1⟩
  |i+1=>simpa using b i c F9
 | [],_::_,h=>h.elim
 |_::_,[],h=>h.elim
theorem f8t{s t:SV}(h:s.lf t)(a:s.pure=true):t.pure=true:=by
 unfold SV.lf at h;split at h
 .rfl
 .rfl
 .rfl
 .rfl
 .rfl
 .cases a
 .cases a
 .cases a
 .rfl
 .rfl
 .rfl
 .obtain⟨_,rfl⟩:=h;exact a
 .cases a
 .rfl
 .exact h.elim
theorem b32{cs a:List SV}(h:FU cs a):cs.length=a.length/\(∀(i:Nat) (t:SV),a[i]?=some t->∃s,cs[i]?=some s/\∀{v:Value},D w H μ s v->D w H μ t v)/\(cs.all SV.pure=true->a.all SV.pure=true):=by
 rcases h with rfl|h
 .exact⟨rfl,λi t b=>⟨t,b,λh=>h⟩,λh=>h⟩
 .obtain⟨e,d⟩:=d17 h;refine⟨e,λi t b=> ?_,λf=> ?_⟩
  .obtain⟨s,hs,c⟩:=d i t b;exact⟨s,hs,λg=>f0n g c⟩
  .rw[Ja];intro t b;obtain⟨i,j⟩:=Kr.1 b;obtain⟨s,hs,c⟩:=d i t j;exact f8t c (Ja.1 f s (J6 hs))
theorem b5b{s t:SV}{v:Value}(h:D w H μ s v)(d:s.le0 t):D w H μ t v:=by
 unfold SV.le0 at d;split at d
 .exact .any
 .split at d
  .subst_vars;exact h
  .exact d.elim
 .subst d;exact h
 .cases h with
  |ub k h2=>exact .ub (λe=>d.1 (k e)) (λe=>d.2 (h2 e))
 .subst d;exact h
 .split at d
  .rename_i e;obtain⟨rfl,rfl⟩:=e;exact h
  .exact d.elim
 .split at d
  .subst_vars;exact h
  .exact d.elim
 .obtain⟨rfl,rfl,rfl,rfl⟩:=d;exact h
 .rename_i A n f c l n' f' c';obtain⟨rfl,x,hc,hf⟩:=d;cases h with
  |sl a b o m g hm hx ge u hl hd=>
   by_cases y:n=0
   .subst y;exact Db
   .have e:A=l:=by
     split at x
     .assumption
     .exact absurd x y
    subst e;exact .sl a b o m g hm hx (XI hc ge) u (λi hi=>by
     obtain⟨g1,_,B⟩:=b32 (w:=w) (H:=H) (μ:=μ) (hf i hi);exact⟨g1▸(hl i hi).1,B (hl i hi).2⟩) (λi j s hi hs=>by
     obtain⟨C,E,F⟩:=(b32 (w:=w) (H:=H) (μ:=μ) (hf i hi)).2.1 j s hs;exact F (hd i j C hi E))
 .obtain⟨rfl,hc⟩:=d;cases h;exact Dc
 .obtain⟨rfl,rfl,rfl,rfl,hf⟩:=d;cases h with
  |rel b o g hi hb u hl hd=>exact .rel b o g hi hb u (λi hi=>Gb) (λi j s hi hs=>hd i j s hi Gc)
 .obtain⟨rfl,rfl⟩:=d;exact h
 .split at d
  .subst_vars;exact h
  .exact d.elim
 .obtain⟨⟨rfl,rfl⟩,k,h2⟩:=d;cases h with
  |mp r g hb hm hl hd=>
   have e:=Mw k;subst e;exact Dd
 .obtain⟨z,rfl,hi⟩:=d;split at z;rotate_left
  .exact z.elim
  rename_i e;obtain⟨rfl,rfl⟩:=e;cases h with
  |fp h=>
   refine .fp ?_;split
   .rename_i e;rw[Iz e]at h;rw[<-hi e];exact h
   .rename_i e;rwa[J3 e]at h
 .subst d;cases h;exact .fp rfl
 .exact d.elim
theorem b9k:∀{cs a:List SV},BH cs a->cs.length=a.length/\∀(i:Nat) (t:SV),a[i]?=some t->∃s,cs[i]?=some s/\s.le0 t
 | [],[],_=>⟨rfl,λi t h=>E6⟩
 |s::r,t::q,h=>by
  obtain⟨h1,b⟩:=b9k h.2;refine⟨En,λi c ht=> ?_⟩;match i with
  |0=>simp at ht;subst ht;exact⟨s,rfl,h.1⟩
  |i+1=>simpa using b i c F9
 | [],_::_,h=>h.elim
 |_::_,[],h=>h.elim
theorem c2k{s t:SV}{v:Value}(h:D w H μ s v)(a:s.le1 t):D w H μ t v:=by
 unfold SV.le1 at a;split at a
 .obtain⟨h1,b⟩:=b9k a;cases h with
  |agg c hl d=>
   refine .agg c Dv (λi t v e f=> ?_);obtain⟨s,hs,g⟩:=b i t e;exact b5b (d i s v hs f) g
 .exact b5b h a
theorem c78:∀{cs a:List SV},le1L cs a->cs.length=a.length/\∀(i:Nat) (t:SV),a[i]?=some t->∃s,cs[i]?=some s/\s.le1 t
 | [],[],_=>⟨rfl,λi t h=>E6⟩
 |s::r,t::q,h=>by
  obtain⟨h1,b⟩:=c78 h.2;refine⟨En,λi c ht=> ?_⟩;match i with
  |0=>simp at ht;subst ht;exact⟨s,rfl,h.1⟩
  |i+1=>simpa using b i c F9
 | [],_::_,h=>h.elim
 |_::_,[],h=>h.elim
theorem QI{s t:SV}{v:Value}(h:D w H μ s v)(a:s.le2 t):D w H μ t v:=by
 unfold SV.le2 at a;split at a
 .obtain⟨h1,b⟩:=c78 a;cases h with
  |tup c hl d=>
   refine .tup c Dv (λi t v e f=> ?_);obtain⟨s,hs,g⟩:=b i t e;exact c2k (d i s v hs f) g
 .exact c2k h a
end
def SV.in0(n:Nat):SV->Bool
 |.own k _=>decide (k<n)
 |.osl k=>decide (k<n)
 |.oel k _ _ _=>decide (k<n)
 |.omp k=>decide (k<n)
 |.fp _ k _ _=>decide (k<n)
 |.clo _ a=>a.all λc=>match c with
  |.own k _=>decide (k<n)
  |.osl k=>decide (k<n)
  |.omp k=>decide (k<n)
  |.fp _ k _ _=>decide (k<n)
  |.oel _ _ _ _|.agg _|.tup _=>false
  |.clo _ a=>a.isEmpty
  |_=>true
 |.agg _|.tup _=>false
 |_=>true
def SV.in1(n:Nat):SV->Bool
 |.agg a=>a.all (SV.in0 n)
 |s=>s.in0 n
def SV.in2(n:Nat):SV->Bool
 |.tup a=>a.all (SV.in1 n)
 |s=>s.in1 n
def cut(n:Nat)(μ:Mu):Mu:=λk=>if k<n then μ k else none
section
variable{w:World}{H H':Nat->Prop}{μ:Mu}{n:Nat}
theorem b6b(j:∀b,H' b->H b){s:SV}{v:Value}(h:D w H μ s v)(hi:s.in0 n=true):D w H' (cut n μ) s v:=by
 have c:∀{k x},k<n->μ k=some x->cut n μ k=some x:=λC hx=>by simp[cut,C,hx]
 cases h with
 |int=>exact .int
 |bool=>exact .bool
 |con=>exact .con
 |own h=>exact .own (c Fs h)
 |osl h=>exact .osl (c Fs h)
 |oel h=>exact .oel (c Fs h)
 |omp h=>exact .omp (c Fs h)
 |fp h=>exact D.fp_mk (λu y e=>⟨u,y,c Fs e,λ_ h=>h⟩) h
 |mp r g l q d f=>exact GS j (.mp r g l q d f) rfl
 |sl a b o m g q hx hc t d f=>exact GS j (.sl a b o m g q hx hc t d f) rfl
 |rel b o g z l t d f=>exact GS j (.rel b o g z l t d f) rfl
 |agg=>simp[SV.in0]at hi
 |tup=>simp[SV.in0]at hi
 |clo E d f=>
  refine .clo E d (λi s v hs F=> ?_);have hc:=Ja.1 hi s (J6 hs);have G:=f i s v hs F;cases G with
  |own h=>exact .own (c Ep h)
  |osl h=>exact .osl (c Ep h)
  |omp h=>exact .omp (c Ep h)
  |fp h=>exact D.fp_mk (λu y e=>⟨u,y,c Ep e,λ_ h=>h⟩) h
  |mp r g l q d f=>exact GS j (.mp r g l q d f) rfl
  |oel h=>simp at hc
  |agg=>simp at hc
  |tup=>simp at hc
  |clo I J K=>exact GS j (.clo I J K) Hq
  |int=>exact .int
  |bool=>exact .bool
  |con=>exact .con
  |ub A B=>exact .ub A B
  |any=>exact .any
  |sl a b o m g q hx L t d f=>exact GS j (.sl a b o m g q hx L t d f) rfl
  |rel b o g z l t d f=>exact GS j (.rel b o g z l t d f) rfl
 |ub A B=>exact .ub A B
 |any=>exact .any
theorem c1g(a:∀b,H' b->H b){s:SV}{v:Value}(h:D w H μ s v)(hi:s.in1 n=true):D w H' (cut n μ) s v:=by
 unfold SV.in1 at hi;split at hi
 .cases h with
  |agg c d e=>exact .agg c d (λi s v hs f=>b6b a (e i s v hs f) (Ja.1 hi s (J6 hs)))
 .exact b6b a h hi
theorem c2q(a:∀b,H' b->H b){s:SV}{v:Value}(h:D w H μ s v)(hi:s.in2 n=true):D w H' (cut n μ) s v:=by
 unfold SV.in2 at hi;split at hi
 .cases h with
  |tup c d e=>exact .tup c d (λi s v hs f=>c1g a (e i s v hs f) (Ja.1 hi s (J6 hs)))
 .exact c1g a h hi
end
def c61:List (Nat×(Nat->List SV))->List (Nat×(Nat->List SV))->Prop
 | [],[]=>True
 |a::r,b::q=>a.1=b.1/\(∀i,i<a.1->a.2 i=b.2 i)/\c61 r q
 |_,_=>False
def d59(n:Nat):Option (Nat×Nat)->Bool
 |some (_,c)=>decide (c<n)
 |none=>true
theorem c5d{n:Nat}{a:Option (Nat×Nat)}(h:d59 n a=true):∀i c,a=some (i,c)->c<n:=λi c e=>by subst e;simpa[d59]using h
def Mem.le(m m':Mem):Prop:=m.cs=m'.cs/\c61 m.rows m'.rows
def Blk.le(n:Nat):Blk->Blk->Prop
 |.cells T x,.cells a g=>(if T=a/\g.all (SV.in0 n)=true then True else False)/\BH x g
 |.row T j k f c,.row a d e y z=>(if T=a/\j=d then True else False)/\k=e/\GL c z/\∀i,i<k->FU (f i) (y i)
 |.map T A h v,.map a l m o=>(T=a/\A=l)/\(∀q,h q=m q)/\∀q,h q=true->v q=o q
 |.fam T B k C F,.fam a p e b E=>(if T=a/\B=p/\d59 n b=true then True else False)/\k=e/\C=b/\∀i,i<k->(F i).le (E i)
 |.pmap T k h v,.pmap a e m o=>(if T=a/\k=e/\k<n then True else False)/\(∀q,h q=m q)/\∀q,h q=true->v q=o q
 |.pool T j k G u w H,.pool a d e I r s t=>(if T=a/\j=d then True else False)/\k=e/\(∀i,i<k->u i=r i)/\∀i,i<k->u i=true->G i=I i/\w i=s i/\∀q,q<w i->H i q=t i q
 |_,.dead=>True
 |_,_=>False
def SU(n:Nat):List Blk->List Blk->Prop
 |_,[]=>True
 |b::r,a::c=>b.le n a/\SU n r c
 | [],_::_=>False
def f79(n:Nat)(ρ:List Entry):List Entry->Prop
 | []=>True
 |e::r=>(match e.guard,CJ e.slot ρ with
  |none,some x=>match x.guard with
   |none=>(if e.sv.in2 n then True else False)/\x.sv.le2 e.sv
   |some _=>False
  |_,_=>False)/\f79 n ρ r
def TK(st a:St):Prop:=SU a.own.length st.own a.own/\f79 a.own.length st.ρ a.ρ
section
variable{w:World}{H:Nat->Prop}{μ:Mu}
theorem b2s{n:Nat}:∀{l c:List Blk},SU n l c->∀(k:Nat) (a:Blk),c[k]?=some a->∃b,l[k]?=some b/\b.le n a
 |_,[],_=>λk b h=>E6
 |b::r,a::r',h=>λk x hx=>by
  match k with
  |0=>simp at hx;subst hx;exact⟨b,rfl,h.1⟩
  |k+1=>simpa using b2s h.2 k x (by simpa using hx)
 | [],_::_,h=>h.elim
theorem JI.le{μ:Mu}{x:Value}{T:TypeId}{sz n:Nat}{f d:Nat->List SV}{c:Option Nat}(h:JI w H μ x T sz n f c)(hf:∀i,i<n->f i=d i):JI w H μ x T sz n d c:=by
 obtain⟨a,m,rfl,e,g,k,hl,l⟩:=h;refine⟨a,m,rfl,e,g,k,λi hi=>Gb,?_⟩;rcases l with h|⟨b,o,q,r,rfl,t,u,y,z⟩
 .exact .inl h
 .exact .inr ⟨b,o,q,r,rfl,t,u,y,λi j s v hi hs A=>z i j s v hi Gc A⟩
theorem b7j:∀{l c:List (Nat×(Nat->List SV))},c61 l c->l.length=c.length/\∀(j:Nat) (b:Nat×(Nat->List SV)),c[j]?=some b->∃a,l[j]?=some a/\a.1=b.1/\∀i,i<a.1->a.2 i=b.2 i
 | [],[],_=>⟨rfl,λj b h=>E6⟩
 |a::r,b::q,h=>by
  obtain⟨d,e,f⟩:=h;obtain⟨g,k⟩:=b7j f;refine⟨by simp[g],λj x hx=> ?_⟩;match j with
  |0=>simp at hx;subst hx;exact⟨a,rfl,d,e⟩
  |j+1=>simpa using k j x (by simpa using hx)
 | [],_::_,h=>h.elim
 |_::_,[],h=>h.elim
theorem MemOK.le{T:TypeId}{b:List (TypeId×Nat)}{m m':Mem}{p:Value}{us:List Value}(h:MemOK w H T b m p us)(d:m.le m'):MemOK w H T b m' p us:=by obtain⟨c,e⟩:=d;obtain⟨f,g⟩:=b7j e;refine⟨by rw[<-c];exact h.cells,by rw[<-c];exact h.memc,h.len,by rw[<-f];exact h.rlen,λj t r u i k l=> ?_⟩;obtain⟨a,n,o,q⟩:=g j r k;have:=(h.rows j t a u i n l).le q;rwa[o]at this
theorem FamOK.le{T:TypeId}{d:List (TypeId×Nat)}{n:Nat}{e:Option Nat}{F f:Nat->Mem}{ps:List Value}{g:List (List Value)}(h:FamOK w H T d n e F ps g)(k:∀i,i<n->(F i).le (f i)):FamOK w H T d n e f ps g:=by
 refine⟨h.pl,h.ql,h.nd,λi j=> ?_⟩;obtain⟨b,l,m,o,a⟩:=h.mem i j;refine⟨b,l,m,o,?_⟩;rcases a with a|⟨a,c,rfl,p⟩
 .exact .inl a
 .exact .inr ⟨a,c,rfl,p.le (k i j)⟩
theorem Blk.le_sound{n:Nat}{H':Nat->Prop}(G:∀b,H' b->H b){x:Value}{bl I:Blk}(h:DK w H μ x bl)(A:bl.le n I):DK w H' (cut n μ) x I:=by
 unfold Blk.le at A;split at A
 .obtain⟨d,C⟩:=A;split at d;rotate_left
  .exact d.elim
  rename_i B;obtain⟨rfl,M⟩:=B;obtain⟨u,y⟩:=b9k C;obtain⟨b,N,rfl,J,tn,V,E⟩:=h;refine⟨b,N,rfl,J,Dv,V,λi s v hs K=> ?_⟩;obtain⟨t,W,X⟩:=y i s hs;exact b6b G (b5b (E i t v W K) X) (Ja.1 M s (J6 hs))
 .rename_i T Y k f c T' sz' k' O c';obtain⟨d,rfl,Z,P⟩:=A;split at d;rotate_left
  .exact d.elim
  rename_i B;obtain⟨rfl,rfl⟩:=B;obtain⟨a,m,rfl,hn,L,ge,C,be⟩:=h;have Q:∀i,i<k->(O i).length=Y/\(O i).all SV.pure=true:=λi l=>by obtain⟨g1,_,g3⟩:=b32 (w:=w) (H:=H) (μ:=μ) (P i l);exact⟨g1▸(C i l).1,g3 (C i l).2⟩
  refine⟨a,m,rfl,hn,L,XI Z ge,Q,?_⟩;rcases be with h|⟨b,o,N,c7,rfl,J,ho,u,E⟩
  .exact .inl h
  .refine .inr ⟨b,o,N,c7,rfl,J,ho,u,λi j s v l hs K=> ?_⟩;obtain⟨s0,bu,jt⟩:=(b32 (w:=w) (H:=H) (μ:=μ) (P i l)).2.1 j s hs;exact GS G (jt (E i j s0 v l bu K)) (Ja.1 (Q i l).2 s (J6 hs))
 .obtain⟨⟨rfl,rfl⟩,u,y⟩:=A;obtain⟨r,g,rfl,L,C,E⟩:=h;have e:=Mw u;subst e;exact⟨r,g,rfl,L,λq z=>by rw[<-y q z];exact C q z,λq i s v z hs K=>HU G (E q i s v z (by rw[y q z];exact hs) K) (Ja.1 (C q z).2 s (J6 (by rw[y q z];exact hs)))⟩
 .obtain⟨d,rfl,rfl,hF⟩:=A;split at d;rotate_left
  .exact d.elim
  rename_i B;obtain⟨rfl,rfl,M⟩:=B;obtain⟨ps,F,rfl,h,J⟩:=h;refine⟨ps,F,rfl,(h.keep ⟨J9 _,λ_ _ _=>rfl,λb _=>G b⟩ (λ_ _=>rfl)).le hF,J.keep (λi c p e d=> ?_)⟩;have:c<n:=c5d M i c e;simp[cut,this,d]
 .obtain⟨d,u,y⟩:=A;split at d;rotate_left
  .exact d.elim
  rename_i B;obtain⟨rfl,rfl,R⟩:=B;obtain⟨⟨ps,F,he⟩,r,g,rfl,L,E⟩:=h;have e:=Mw u;subst e;refine⟨⟨ps,F,by simp[cut,R,he]⟩,r,g,rfl,L,λq z=> ?_⟩;obtain⟨p,e,h⟩:=E q z;rw[y q z]at h;exact⟨p,e,D.fp_keep (λps F e=>⟨ps,F,by simp[cut,R,e],λ_ h=>h⟩) h⟩
 .obtain⟨d,rfl,S,nr⟩:=A;split at d;rotate_left
  .exact d.elim
  rename_i B;obtain⟨rfl,rfl⟩:=B;obtain⟨ps,F,rfl,h⟩:=h;have h:=h.keep (ps:=ps) (H':=H') ⟨J9 _,λ_ _ _=>rfl,λb _=>G b⟩ (λ_ _=>rfl);refine⟨ps,F,rfl,h.ql,h.nd,λi l=> ?_⟩;rcases h.mem i l with⟨u,y⟩|⟨u,y,h3⟩
  .exact .inl ⟨by rw[<-S i l];exact u,y⟩
  .obtain⟨U,e2,e3⟩:=nr i l u;refine .inr ⟨by rw[<-S i l];exact u,by rw[<-U];exact y,?_⟩;rw[<-U,<-e2];exact h3.le e3
 .exact J5
 .exact A.elim
theorem c27{n:Nat}{ρ:List Entry}:∀{a:List Entry},f79 n ρ a->∀(t:Nat) (e:Entry),CJ t a=some e->e.guard=none/\∃x,CJ t ρ=some x/\x.guard=none/\e.sv.in2 n=true/\x.sv.le2 e.sv
 | [],_=>λt e h=>by simp[CJ]at h
 |y::r,h=>λt e d=>by
  simp only[CJ]at d;split at d
  .rename_i hs;cases d;have b:=h.1;split at b
   .rename_i x g hx;split at b
    .rename_i i;obtain⟨f,j⟩:=b;split at f
     .rename_i c;exact⟨g,x,by rw[<-hs];exact hx,i,c,j⟩
     .exact f.elim
    .exact b.elim
   .exact b.elim
  .exact c27 h.2 t e d
def ancB(E:Env)(st:St):Bool:=decide (E.na<=st.own.length)
theorem b6z{E:Env}{q:Nat}{X A:Nat->Prop}{r:World}{u:Nat}{st d:St}{a:Act}(h:SD E q X A r u st a w μ)(B:TK st d)(C:ancB E d=true):∃m,SD E q X A r u d a w m:=by
 obtain⟨F,G⟩:=B;have n:∀b,held A (cut d.own.length μ) b->held A μ b:=by
  intro b f;rcases f with f|⟨k,x,c,hx⟩
  .exact .inl f
  .refine .inr ⟨k,x,?_,hx⟩;unfold cut at c;split at c
   .exact c
   .cases c
 have l:∀{k x},cut d.own.length μ k=some x->k<d.own.length/\μ k=some x:=by
  intro k x c;unfold cut at c;split at c
  .exact⟨‹_›,c⟩
  .cases c
 refine⟨cut d.own.length μ,⟨λk x c=> ?_,λk H x I b c J=>h.own.inj k H x I b (l c).2 (l J).2,λk x b c=>h.own.rng k x b (l c).2,h.own.bnd⟩,h.fr,h.base,
  λg s i=>⟨(h.glo g s i).1,GS n (h.glo g s i).2 (h.glo g s i).1⟩,h.dfr,h.size,λt e v=> ?_,λk c=>by unfold cut;rw[if_neg Dv],λj x hx=>by
   have h1:=Env.ak_lt (Env.an_ak hx);have h2:E.na<=d.own.length:=by simpa[ancB]using C
   unfold cut;rw[Iz Dv];exact h.anc j x hx⟩
 .obtain⟨y,c⟩:=l c;obtain⟨bl,K,f⟩:=h.own.blk k x c;obtain⟨b,z,o⟩:=b2s F k _ (Iy y);rw[K]at z;cases z;exact⟨_,Iy y,Blk.le_sound n f o⟩
 .obtain⟨i,x,hx,L,M,o⟩:=c27 G t e v;have:=h.env t x hx;unfold CZ at this⊢;rw[L]at this;rw[i];simp only at this⊢;rw[MY hx]at this;rw[MY v];exact c2q n (QI this o) M
end
def d6p(E:Env)(own:List Blk)(ρ:Operand->Option SV)(e:Op):Option (Prop×SV×Blk):=
 match e with
 |.call c=>match c.callee with
  |.value f=>match ρ f with
   |some (.clo a [])=>match E.Hc a with
    |some h=>match c.args.toList.mapM ρ with
     |some d=>match d.all SV.pure with
      |true=>match h d []with
       |some r=>match r.own with
        | [b]=>some (r.pre,r.res.ren2 (λk=>some (own.length+k)),b.ren (λk=>some (own.length+k)))
        |_=>none
       |none=>none
      |false=>none
     |none=>none
    |none=>none
   |_=>none
  |_=>none
 |_=>none
section
variable{E:Env}{B0:Nat}{X A:Nat->Prop}{a:Act}{w:World}{μ:Mu}
theorem c9y(hC:GR E){own n:List Blk}(C:Own B0 X A w μ n)(hB:B0<=w.heap.size)(J:μ own.length=none)(Y:∀g s,E.glob g=some s->s.pure=true/\D w (held A μ) μ s (.pointer (some ⟨g,0,none⟩)))
 {ρ:Operand->Option SV} (K:∀(x:Operand) (s:SV),ρ x=some s->D w (held A μ) μ s (a.eval x)) {o:Oper} {L:Prop} {s:SV} {b:Blk} (m:d6p E own ρ o.op=some (L,s,b)) (hp:L) (d8:n[own.length]?=some b):
 ∃f z,(execOp a.eval o).run E.P w=.ok (.enter f z) w/\Calls E.P f z w λe M=>∃v d,e=.returned v/\After B0 X A w M μ d n/\(∀j,j≠own.length->d j=μ j)/\D M (held A d) d s v:=by
 unfold d6p at m;split at m;rotate_left
 .cases m
 rename_i c cy;split at m;rotate_left
 .cases m
 rename_i f hf;split at m;rotate_left
 .cases m
 rename_i F N;split at m;rotate_left
 .cases m
 rename_i h Z8;split at m;rotate_left
 .cases m
 rename_i xs ku;split at m;rotate_left
 .cases m
 rename_i rd;split at m;rotate_left
 .cases m
 rename_i r hr;split at m;rotate_left
 .cases m
 rename_i b0 qg;simp only[Id]at m;obtain⟨rfl,rfl,rfl⟩:=m;have fw:=K _ _ N;generalize t8:a.eval f=vf at fw;obtain⟨⟨fn,h1,h2,h3⟩,hS⟩:=hC.2.2 F h Z8;cases fw with
 |clo Z fu nh=>
 have Q6:Z=[]:=Lp.1 fu;subst Q6;have hD:=Tw (a:=a) K ku;have hm:c.args.map a.eval=(c.args.toList.map a.eval).toArray:=F4;have bp:(execOp a.eval o).run E.P w=.ok (.enter F (c.args.toList.map a.eval).toArray) w:=by simp only[execOp,cy,resolve,hf,t8,Deferred.ofValue,hm,Ie,invoke,callFunc,run_program,h1,h2,Ik,h3];simp
 have bb:∀b,held (held A μ) (λ_=>none) b->held A μ b:=by
  rintro b (l|⟨j,x,H,_⟩)
  .exact l
  .cases H
 have Yn:∀b,held A μ b->b<w.heap.size:=by
  rintro b (l|⟨k,x,J,hx⟩)
  .exact C.bnd b l
  .exact(C.rng k x b J hx).1
 have Z9:Own 0 (λ_=>True) (held A μ) w (λ_=>none) []:=⟨λk x hx=>(by cases hx),λk S x x' b hx=>(by cases hx),λk x b hx=>(by cases hx),Yn⟩
 have Za:DL w (held (held A μ) (λ_=>none)) (λ_=>none) xs (c.args.toList.map a.eval):=⟨hD.1,λi s v hs hv=>HU bb (hD.2 i s v hs hv) (Ja.1 rd s (J6 hs))⟩
 have rc:∀g t,E.glob g=some t->t.pure=true/\D w (held (held A μ) (λ_=>none)) BQ t (.pointer (some ⟨g,0,none⟩)):=λg t hg=>⟨(Y g t hg).1,GS bb (Y g t hg).2 (Y g t hg).1⟩
 refine⟨F,_,bp,(hS (held A μ) w xs _ [] (λ_=>none) r Yn rc Z9 (λ_ _=>rfl) Za hr hp).mono ?_⟩;rintro e M ⟨v,d,rfl,gu,t9,gc,_,q⟩;rw[qg]at gu t9;have T:∀b,¬VN (λ_=>none) b:=by rintro b ⟨k,x,hx,_⟩;cases hx
 have U:∀{x b},d 0=some x->CN x b->b<M.heap.size/\¬held A μ b/\w.heap.size<=b:=by
  intro x b hx l;obtain⟨O,Q,y⟩:=gu.rng 0 x b hx l;refine⟨O,Q,?_⟩;rcases y with y|y
  .exact y
  .exact(T b y).elim
 refine⟨v,λk=>if k=own.length then d 0 else μ k,rfl,?_⟩;generalize B:(λk=>if k=own.length then d 0 else μ k:Mu)=μ2;have G:μ2 own.length=d 0:=by rw[<-B];simp
 have u:∀{k},k≠own.length->μ2 k=μ k:=λJ=>by rw[<-B];simp[J]
 have jg:∀b,held A μ2 b->held (held A μ) d b:=by
  rintro b (R|⟨k,x,hx,l⟩)
  .exact .inl (.inl R)
  .by_cases e:k=own.length
   .rw[e,G]at hx;exact .inr ⟨0,x,hx,l⟩
   .rw[u e]at hx;exact .inl (.inr ⟨k,x,hx,l⟩)
 have kw:∀k j x,(λk=>some (own.length+k)) k=some j->d k=some x->μ2 j=some x:=by
  intro k j x H hx;simp only[Ju]at H;subst H;cases k with
  |zero=>rw[Lu,G];exact hx
  |succ k=>rw[t9 (k+1) Dx]at hx;cases hx
 have bv:Keeps w M (held A μ) (held A μ2) μ μ2:=by
  refine⟨q.size,λb l _=>q.block b l (T b),λb l hh=> ?_,λk x hx=> ?_⟩
  .rcases hh with R|⟨k,x,hx,V1⟩
   .exact .inl R
   .by_cases e:k=own.length
    .rw[e,G]at hx;have:=(U hx V1).2.2;omega
    .rw[u e]at hx;exact .inr ⟨k,x,hx,V1⟩
  .have e:k≠own.length:=λe=>by rw[e,J]at hx;cases hx
   rw[u e];exact hx
 refine⟨⟨⟨λk x hx=> ?_,λk S x x' b hx I l gm=> ?_,λk x b hx l=> ?_,λb l=>K0 (C.bnd b l) q.size⟩,⟨q.os,q.tape,q.output,q.drawn,q.size,λi hi _=>q.block i (K0 hi hB) (T i)⟩,bv⟩,λj H=>u H,b1f jg kw gc⟩
 .by_cases e:k=own.length
  .subst e;rw[G]at hx;obtain⟨bl,V,ba⟩:=gu.blk 0 x hx;simp only[Mp,Ju]at V;subst V;exact⟨_,d8,ba.ren jg kw⟩
  .rw[u e]at hx;obtain⟨bl,V,ba⟩:=C.blk k x hx;exact⟨bl,V,ba.keep bv (λb l=>q.block b (C.rng k x b hx l).1 (T b))⟩
 .by_cases e:k=own.length<;>by_cases W:S=own.length
  .rw[e,W]
  .rw[e,G]at hx;rw[u W]at I;exact((U hx l).2.1 (.inr ⟨S,x',I,gm⟩)).elim
  .rw[W,G]at I;rw[u e]at hx;exact((U I gm).2.1 (.inr ⟨k,x,hx,l⟩)).elim
  .rw[u e]at hx;rw[u W]at I;exact C.inj k S x x' b hx I l gm
 .by_cases e:k=own.length
  .rw[e,G]at hx;obtain⟨O,Q,y⟩:=U hx l;exact⟨O,λR=>Q (.inl R),.inl (Kq hB y)⟩
  .rw[u e]at hx;obtain⟨O,Q,y⟩:=C.rng k x b hx l;exact⟨K0 O q.size,Q,y⟩
end
theorem d0w{P:Program}{B0:Nat}{X A:Nat->Prop}{w:World}{μ:Mu}{own q:List Blk}(K:Own B0 X A w μ q)(Q:∀(k:Nat) (bl:Blk),own[k]?=some bl->q[k]?=some bl)(R:B0<=w.heap.size)(S:μ own.length=none){T ty:TypeId}{sz n:Nat}{f:Nat->List SV}{c:Option Nat}{y:SV}{v u:Value}{C:Prop}{k:Nat}{own':List Blk}{L:Bool}(hx:D w (held A μ) μ (.sl sz n f c) v)(hy:D w (held A μ) μ y u)
 (B:TP P own T (.sl sz n f c) y=some (C,k,own',L)) (hp:C) (G:∀b,own'[own.length]?=some b->q[own.length]?=some b):
 ∃r w' μ',(Builtin.append_ #[T,T] ty #[v,u]).run P w=.ok r w'/\D w' (held A μ') μ' (.osl own.length) r/\After B0 X A w w' μ μ' q/\∀j,j≠own.length->μ' j=μ j:=by
 simp only[TP,J8]at B;obtain⟨e,hT,l,M,z,hz,⟨m,g⟩,V0,B⟩:=B;have U:=QT hT;split at B;rotate_left
 .cases B
 rename_i N;obtain⟨tk,f9,N⟩:=N;obtain⟨inf',E,b8,mn,rfl,pu⟩:=SI (w:=w) (H:=held A μ) (μ:=μ) hz;rw[M]at b8;cases b8;have pe:E.cells.size=l.size:=Fa;have fy:∀v∈E.cells.toList,v.oneCell'=true:=SO pu N;obtain⟨V,I,news,rfl,tp,X8,j7,w8,jz,W,zc⟩:=b0q K Q hy V0;have zu:(Builtin.firstCells l.size m (.slice V m I)).run P w=.ok news.toArray w:=Sq j7 W;have fw:(Builtin.firstCells l.size m (.slice V m I)).run P w.drew=.ok news.toArray w.drew:=Sq j7 W;unfold b4v at B;dsimp only at B;split at B;rotate_left
 .cases B
 rename_i bn;subst bn;simp only[Id]at B;obtain⟨rfl,rfl,rfl,rfl⟩:=B;obtain⟨J,fx,rz,O⟩:=hp;obtain⟨c,rfl⟩:∃I,c=some I:=by
  cases c with
  |none=>exact J.elim
  |some c=>exact⟨c,rfl⟩
 replace J:n=c:=J;obtain⟨a,d,olds,rfl,hnc0,hcx0,jy,w9,dp,pf,P5⟩:=b0q K Q hx (sz:=l.size) (n:=n) (f:=f) (by simp[Rp]);have P6:d=n:=by
  cases hx with
  |sl a b o m g hm hx F b7 hl hd=>
   rcases F with F|F
   .cases F
   .cases F;exact J.symm
 subst P6;have Y:=K;replace G:q[own.length]?=some (.row e l.size (d+m) (λj=>if j<d then f j else g (j-d)) none):=G _ Dx;rcases Kg m with Z|Z
 .subst Z;obtain rfl:d=0:=Dv;obtain rfl:news=[]:=Kp G6;obtain⟨o1,o2⟩:=c0s Y S G (a:=a);exact⟨_,w,_,b04 U M zu,.osl Ed,⟨o1,Fr.refl _ _ _,o2⟩,λj hj=>Ek⟩
 .have P7:(Builtin.firstCells l.size d (.slice a d d)).run P w.drew=.ok olds.toArray w.drew:=Sq jy pf;have hr:=b01 (P:=P) (w:=w) (ty:=ty) U M mn (olds:=olds) (news:=news) P7 fw Dv rz O;have P4:=Y.drew;have gf:=grownCap_ge w (d+m) d e;have gh:=Nf w (d+m) d e F0;obtain⟨o1,o2⟩:=Tn (x:=.slice (some ⟨w.heap.size,0,none⟩) (d+m) (grownCap w (d+m) d e)) P4 R S G (.cells (olds++news++(Builtin.zeroCells E.cells (grownCap w (d+m) d e-(d+m))).toList).toArray e) (λb O=>(Ya Dv).1 O) (λμ' _ bv=>by
   have dg:=b2q (w':=w.drew.alloc (.cells (olds++news++(Builtin.zeroCells E.cells (grownCap w (d+m) d e-(d+m))).toList).toArray e)) (H':=held A μ') (μ':=μ') (o:=0) (us:=olds++news++(Builtin.zeroCells E.cells (grownCap w (d+m) d e-(d+m))).toList) dp jz
    (λi j s v b8 hs t=>by have hj:j<l.size:=G7;have b6:=MG b8 hj;have gw:=(WD t).1 Fd;rw[Kv]at gw;exact((P5 i j s v b8 hs gw).keep Keeps.drew).keep bv)
    (λi j s v b8 hs t=>by have hj:j<l.size:=Fn;have b6:=MG b8 hj;have mz:(d+i)*l.size=d*l.size+i*l.size:=Lx _ _ _;have:=(WD t).2 Fd (by rw[jy,j7];omega);rw[jy,show 0+(d+i)*l.size+j-d*l.size=i*l.size+j from Dv]at this;exact((zc i j s v b8 hs this).keep Keeps.drew).keep bv)
   refine⟨_,_,rfl,gf,gh,.inl rfl,dg.1,.inr ⟨w.heap.size,0,_,Dv,rfl,Mr w.drew _,?_,λv t=> ?_,dg.2⟩⟩
   .simp only[Iw,jy,j7,L8,Nj,pe,<-Lx];rw[show d+m+(grownCap w (d+m) d e-(d+m))=grownCap w (d+m) d e from Dv];exact C2
   .rcases Jy.1 t with t|t
    .rcases Jy.1 t with t|t
     .exact w9 v t
     .exact w8 v t
    .exact VW fy _ v t)
  refine⟨_,_,_,hr,.osl Ed,⟨o1,Fr.drew.trans (Fr.alloc _ R),?_⟩,λj hj=>Ek⟩;exact Cn
def d28(E:Env)(own:List Blk)(ρ:Operand->Option SV)(d:Op):Option (Prop×SV×Blk):=match d with
 |.call {callee:=.builtin .append,args:=⟨[x,y]⟩,argTypes:=⟨[T,U]⟩}=>if T=U then(ρ x).bind λe=>(ρ y).bind λg=>match e with
  |.sl h n f c=>match TP E.P own T (.sl h n f c) g with
   |some (p,_,a,true)=>(a[own.length]?).map λb=>(p,.osl own.length,b)
   |_=>none
  |_=>none
  else none
 |_=>none
theorem d08{E:Env}{B0:Nat}{X A:Nat->Prop}{a:Act}{w:World}{μ:Mu}{own d:List Blk}(q:Own B0 X A w μ d)(t:∀(k:Nat) (bl:Blk),own[k]?=some bl->d[k]?=some bl)(u:B0<=w.heap.size)(v:μ own.length=none)
 {ρ:Operand->Option SV} (i:∀(x:Operand) (s:SV),ρ x=some s->D w (held A μ) μ s (a.eval x)) {o:Oper} {l:Prop} {s:SV} {b:Blk} (e:d28 E own ρ o.op=some (l,s,b)) (z:l) (B:d[own.length]?=some b):
 ∃r m g,(execOp a.eval o).run E.P w=.ok (.value r) m/\After B0 X A w m μ g d/\(∀j,j≠own.length->g j=μ j)/\D m (held A g) g s r:=by
 unfold d28 at e;split at e;rotate_left
 .cases e
 rename_i x y T U C;split at e;rotate_left
 .cases e
 rename_i F;subst F;simp only[J8]at e;obtain⟨sx,G,sy,H,e⟩:=e;split at e;rotate_left
 .cases e
 rename_i sz n f c;split at e;rotate_left
 .cases e
 rename_i p0 k own' I;simp only[Ic]at e;obtain⟨b0,J,rfl,rfl,rfl⟩:=e;obtain⟨r,m,g,K,L,M,N⟩:=d0w (P:=E.P) (ty:=o.type) q t u v (i _ _ G) (i _ _ H) I z (λb h=>by rw[J]at h;cases h;exact B);refine⟨r,m,g,?_,M,N,L⟩;simp only[execOp,C,resolve,Ie,invoke,builtin];rw[show (⟨[x,y]⟩:Array Operand).map a.eval= #[a.eval x,a.eval y]from Dx,K];simp
end Go.Proofs.YtaihldljnlgnoaaGreatDoor.V
