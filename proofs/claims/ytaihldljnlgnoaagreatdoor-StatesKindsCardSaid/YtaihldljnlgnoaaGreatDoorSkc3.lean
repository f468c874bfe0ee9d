/-
  Parts of the proof: H0 G0 E1 G2 V15 V15b. Conditions: none.
-/
import Derived.Test.YtaihldljnlgnoaaGreatDoorSkc2
set_option maxRecDepth 100000
set_option maxHeartbeats 40000000
namespace Go.Proofs.YtaihldljnlgnoaaGreatDoor.V
open Go
def Rc:List Nat->Bool
 | []=>true
 |x::r=> !r.contains x&&Rc r
def BQ(k:Nat):List Nat->Option Nat
 | []=>none
 |a::r=>if a=k then some 0 else(BQ k r).map (· +1)
theorem QI{k j:Nat}:∀{l:List Nat},BQ k l=some j->l[j]?=some k:=by
 intro l;induction l generalizing j with
 |nil=>intro h;simp[BQ]at h
 |cons a r b=>
  intro h;simp only[BQ]at h;split at h
  .rename_i e;cases h;simp[e]
  .simp only[Jc]at h;obtain⟨i,c,rfl⟩:=h;simpa using b c
theorem Ww{k:Nat}:∀{l:List Nat},BQ k l=none->k∉l:=by
 intro l;induction l with
 |nil=>intro _ h;simp at h
 |cons a r c=>
  intro h;simp only[BQ]at h;split at h
  .cases h
  .rename_i e;simp only[Option.map_eq_none_iff]at h;intro b;rcases Ji.1 b with b|b
   .exact e b.symm
   .exact c h b
theorem b18{l:List Nat}(h:l.Nodup){k j:Nat}(b:l[j]?=some k):BQ k l=some j:=by
 cases hi:BQ k l with
 |none=>exact absurd (Jb b) (Ww hi)
 |some i=>
  have m:=QI hi;obtain⟨c,d⟩:=J9.1 m;obtain⟨e,f⟩:=J9.1 b;have g:=Kg.1 h;rcases N0 i j with a|rfl|a
  .exact absurd (d.trans f.symm) (g i j c e a)
  .rfl
  .exact absurd (f.trans d.symm) (g j i e c a)
def SV.ren00(g:Nat->Option Nat):SV->SV
 |.own k o=>match g k with|some j=>.own j o|none=>.any
 |.osl k=>match g k with|some j=>.osl j|none=>.any
 |.omp k=>match g k with|some j=>.omp j|none=>.any
 |.oel k a i o=>match g k with|some j=>.oel j a i o|none=>.any
 |.fp b k i o=>match g k with|some j=>.fp b j i o|none=>.any
 |.agg _|.tup _=>.any
 |.clo f c=>if c.isEmpty then .clo f []else .any
 |s=>s
def SV.ren0(g:Nat->Option Nat):SV->SV
 |.clo f a=>.clo f (a.map (SV.ren00 g))
 |s=>s.ren00 g
def SV.ren1(g:Nat->Option Nat):SV->SV
 |.agg a=>.agg (a.map (SV.ren0 g))
 |s=>s.ren0 g
def SV.ren2(g:Nat->Option Nat):SV->SV
 |.tup a=>.tup (a.map (SV.ren1 g))
 |s=>s.ren1 g
def Blk.ren(g:Nat->Option Nat):Blk->Blk
 |.cells T d=>.cells T (d.map (SV.ren0 g))
 |.pmap K k a BQ=>match g k with|some j=>.pmap K j a BQ|none=>.dead
 |.fam T e n (some (i,c)) F=>match g c with|some j=>.fam T e n (some (i,j)) F|none=>.dead
 |.rowh T h n f c i u=>.rowh T h n f c i (u.map (SV.ren0 g))
 |b=>b
section
variable{w:World}{H H':Nat->Prop}{μ μ':Mu}{g:Nat->Option Nat}
theorem b5v (u : ∀ b, H' b → H b) (f : ∀ k j x, g k = some j → μ k = some x → μ' j = some x) {s : SV} {v : Value} (h : D w H μ s v) : D w H' μ' (s.ren00 g) v := by
  have c : s.pure = true → s.ren00 g = s → D w H' μ' (s.ren00 g) v := λy e => by
    rw [e]
    exact HJ u h y
  cases h with
  | own h => simp only [SV.ren00]; split; · rename_i d; exact .own (f _ _ _ d h)
             · exact .any
  | osl h => simp only [SV.ren00]; split; · rename_i d; exact .osl (f _ _ _ d h)
             · exact .any
  | omp h => simp only [SV.ren00]; split; · rename_i d; exact .omp (f _ _ _ d h)
             · exact .any
  | oel h => simp only [SV.ren00]; split; · rename_i d; exact .oel (f _ _ _ d h)
             · exact .any
  | fp h =>
    simp only [SV.ren00]
    split
    · rename_i d; cases (D.fp h : D w H μ _ _) with
      | fp h =>
        refine .fp ?_
        split
        · rename_i e
          rw [J7 e] at h
          obtain ⟨z, A, b, l, n, B⟩ := h
          exact ⟨z, A, b, f _ _ _ d l, n, B⟩
        · rename_i e
          rwa [J8 e] at h
    · exact .any
  | agg => exact .any
  | tup => exact .any
  | clo vs hl q =>
    simp only [SV.ren00]
    split
    · rename_i t
      have := List.isEmpty_iff.1 t
      subst this
      exact Cb
    · exact .any
  | int => exact .int
  | bool => exact .bool
  | con => exact .con
  | ub l n => exact .ub l n
  | any => exact .any
  | sl a b o m g C hx t E hl q => exact c rfl rfl
  | rel b o g hi F E hl q => exact c rfl rfl
  | mp r g F C hl q => exact c rfl rfl
theorem WX(a:∀b,H' b->H b)(c:∀k j x,g k=some j->μ k=some x->μ' j=some x){s:SV}{v:Value}(h:D w H μ s v):D w H' μ' (s.ren0 g) v:=by
 unfold SV.ren0;split
 .cases h with
  |clo d hl e=>
   refine .clo d Eb (λi s v hs f=> ?_);simp only[In]at hs;obtain⟨l,m,rfl⟩:=hs;exact b5v a c (e i l v m f)
 .exact b5v a c h
theorem b1f(a:∀b,H' b->H b)(c:∀k j x,g k=some j->μ k=some x->μ' j=some x){s:SV}{v:Value}(h:D w H μ s v):D w H' μ' (s.ren1 g) v:=by
 unfold SV.ren1;split
 .cases h with
  |agg d hl e=>
   refine .agg d Eb (λi s v hs f=> ?_);simp only[In]at hs;obtain⟨l,m,rfl⟩:=hs;exact WX a c (e i l v m f)
 .exact WX a c h
theorem b1c(a:∀b,H' b->H b)(c:∀k j x,g k=some j->μ k=some x->μ' j=some x){s:SV}{v:Value}(h:D w H μ s v):D w H' μ' (s.ren2 g) v:=by
 unfold SV.ren2;split
 .cases h with
  |tup d hl e=>
   refine .tup d Eb (λi s v hs f=> ?_);simp only[In]at hs;obtain⟨l,m,rfl⟩:=hs;exact b1f a c (e i l v m f)
 .exact b1f a c h
theorem DI.ren(hH:∀b,H' b->H b)(t:∀k j x,g k=some j->μ k=some x->μ' j=some x){x:Value}{bl:Blk}(h:DI w H μ x bl):DI w H' μ' x (bl.ren g):=by
 have G:∀{s:SV} {v:Value},s.pure=true->D w H μ s v->D w H' μ' s v:=λI h=>HJ hH h I;cases bl with
 |cells T cs=>
  obtain⟨b,J,rfl,d,hl,y,l⟩:=h;refine⟨b,J,rfl,d,Eb,y,λi s v hs z=> ?_⟩;simp only[In]at hs;obtain⟨O,P,rfl⟩:=hs;exact WX hH t (l i O v P z)
 |row T M n f c=>
  obtain⟨a,m,rfl,Q,A,R,hl,S⟩:=h;refine⟨a,m,rfl,Q,A,R,hl,?_⟩;rcases S with h|⟨b,o,J,U,rfl,d,V,y,l⟩
  .exact .inl h
  .exact .inr ⟨b,o,J,U,rfl,d,V,y,λi j s v N hs z=>G (Je.1 (hl i N).2 s (Jb hs)) (l i j s v N hs z)⟩
 |map K ag L val=>
  obtain⟨r,g,rfl,A,hl,l⟩:=h;exact⟨r,g,rfl,A,hl,λq i s v C hs z=>G (Je.1 (hl q C).2 s (Jb hs)) (l q i s v C hs z)⟩
 |fam T Ts n W F=>
  obtain⟨ps,qs,rfl,h,d⟩:=h;have B:=h.keep (H':=H') ⟨Jf _,λ_ _ _=>rfl,λb _=>hH b⟩ (λ_ _=>rfl);match W,B,d with
  |none,B,d=>exact⟨ps,qs,rfl,B,λi c e=>E5⟩
  |some (i,c),B,d=>
   simp only[Blk.ren];split
   .rename_i j E;refine⟨ps,qs,rfl,B,λi' c' e=> ?_⟩;cases e;obtain⟨p,X,Y⟩:=d i c rfl;exact⟨p,X,t _ _ _ E Y⟩
   .exact Ja
 |pmap K k L BQ=>
  simp only[Blk.ren];split
  .rename_i j E;obtain⟨⟨ps,qs,Z⟩,r,g,rfl,A,l⟩:=h;refine⟨⟨ps,qs,t _ _ _ E Z⟩,r,g,rfl,A,λq C=> ?_⟩;obtain⟨p,e,h⟩:=l q C;refine⟨p,e,?_⟩;cases h with
   |fp h=>
    simp only[Kp]at h;obtain⟨ps,qs,b,y,h2,h3⟩:=h;exact .fp (by simp only[Kp];exact⟨ps,qs,b,t _ _ _ E y,h2,h3⟩)
  .exact Ja
 |rowh T M n f c i u=>exact OM.to (SV.ren0 g) (λ_ _=>rfl) (λs v I h=>G I h) (λs v h=>WX hH t h) h
 |pool T M n l al ln ct=>
  obtain⟨ps,qs,rfl,h⟩:=h;exact D9
 |dead=>exact Ja
end
def SV.refs0:SV->List Nat
 |.own k _|.osl k|.omp k|.oel k _ _ _|.fp _ k _ _=>[k]
 |_=>[]
def SV.refs1:SV->List Nat
 |.agg a=>a.flatMap SV.refs0
 |.clo _ a=>a.flatMap SV.refs0
 |s=>s.refs0
def Blk.refs:Blk->List Nat
 |.cells _ a=>a.flatMap SV.refs1
 |.pmap _ k _ _=>[k]
 |_=>[]
def Xu:List Nat->List Nat->List Nat
 |a,[]=>a
 |a,k::r=>Xu (if a.contains k then a else a++[k]) r
def close(own:List Blk):Nat->List Nat->List Nat
 |0,l=>l
 |n+1,l=>close own n (Xu l (l.flatMap λk=>match own[k]? with|some b=>b.refs|none=>[]))
def Ny(own:List Blk)(xs:List SV):List Nat:=close own 2 (Xu [] (xs.flatMap SV.refs1))
def Qh(g:Nat->Blk->Blk):Nat->List Blk->List Blk
 |_,[]=>[]
 |k,b::r=>g k b::Qh g (k+1) r
theorem XY{g:Nat->Blk->Blk}:∀{l:List Blk} {k i:Nat},(Qh g k l)[i]?=(l[i]?).map (g (k+i)):=by
 intro l;induction l with
 |nil=>intro k i;simp[Qh]
 |cons b r a=>
  intro k i;match i with
  |0=>simp[Qh]
  |i+1=>simp only[Qh,Lb,a];rw[show k+1+i=k+(i+1)from Dx]
theorem TO{g:Nat->Blk->Blk}:∀{l:List Blk} {k:Nat},(Qh g k l).length=l.length:=by
 intro l;induction l with
 |nil=>intro k;rfl
 |cons b r a=>intro k;simp[Qh,a]
def Rg:Option Blk->Bool
 |some (.row _ _ _ _ _)=>true
 |some (.fam _ _ _ _ _)=>true
 |_=>false
def PR(sel:List Nat)(n:Nat)(j:Nat):Option Nat:=some (if j<sel.length then sel.getD j 0 else n+(j-sel.length))
def RL(sel:List Nat)(own:List Blk)(r:HRes)(a:List Nat):List Blk:=
 Qh (λk b=>match BQ k sel with|some j=>(r.own.getD j b).ren (PR sel own.length)|none=>b.kill a) 0 own++(r.own.drop sel.length).map (Blk.ren (PR sel own.length))
def MM{α:Sort _}(n:Nat)(K:Nat->α):α:=
 match Nat.beq n 0 with|true=>K 0|false=>match Nat.beq n 1 with|true=>K 1|false=>match Nat.beq n 2 with|true=>K 2|false=>match Nat.beq n 3 with|true=>K 3|false=>match Nat.beq n 4 with|true=>K 4|false=>match Nat.beq n 5 with|true=>K 5|false=>match Nat.beq n 6 with|true=>K 6|false=>match Nat.beq n 7 with|true=>K 7|false=>match Nat.beq n 8 with|true=>K 8|false=>match Nat.beq n 9 with|true=>K 9|false=>match Nat.beq n 10 with|true=>K 10|false=>match Nat.beq n 11 with|true=>K 11|false=>match Nat.beq n 12 with|true=>K 12|false=>match Nat.beq n 13 with|true=>K 13|false=>match Nat.beq n 14 with|true=>K 14|false=>match Nat.beq n 15 with|true=>K 15|false=>match Nat.beq n 16 with|true=>K 16|false=>match Nat.beq n 17 with|true=>K 17|false=>match Nat.beq n 18 with|true=>K 18|false=>match Nat.beq n 19 with|true=>K 19|false=>match Nat.beq n 20 with|true=>K 20|false=>match Nat.beq n 21 with|true=>K 21|false=>match Nat.beq n 22 with|true=>K 22|false=>match Nat.beq n 23 with|true=>K 23|false=>K n
theorem b6y{α:Sort _}(n:Nat)(K:Nat->α):MM n K=K n:=by
 unfold MM;repeat' split
 all_goals first
  |rfl
  |(rename_i h;rw[Nat.eq_of_beq_eq_true h])
def VW{α:Sort _}:List Nat->(List Nat->α)->α
 | [],K=>K []
 |n::r,K=>MM n λn=>VW r λr=>K (n::r)
theorem b4t{α:Sort _}:∀(l:List Nat) (K:List Nat->α),VW l K=K l
 | [],_=>rfl
 |n::r,K=>by simp only[VW,b6y,b4t r]
def SV.g0{α:Sort _}(s:SV)(K:SV->α):α:=match s with
 |.own k o=>MM k λk=>MM o λo=>K (.own k o)
 |.osl k=>MM k λk=>K (.osl k)
 |.oel k a i o=>MM k λk=>MM o λo=>K (.oel k a i o)
 |.rel a n f i o=>MM o λo=>K (.rel a n f i o)
 |.omp k=>MM k λk=>K (.omp k)
 |.fp b k i o=>MM k λk=>MM o λo=>K (.fp b k i o)
 |s=>K s
theorem SV.g0_eq{α:Sort _}(s:SV)(K:SV->α):s.g0 K=K s:=by cases s<;>simp only[SV.g0,b6y]
def gL{α:Sort _}:List SV->(List SV->α)->α
 | [],K=>K []
 |s::r,K=>s.g0 λs=>gL r λr=>K (s::r)
theorem f5m{α:Sort _}:∀(l:List SV) (K:List SV->α),gL l K=K l
 | [],_=>rfl
 |s::r,K=>by simp only[gL,SV.g0_eq,f5m r]
def SV.g1{α:Sort _}(s:SV)(K:SV->α):α:=match s with
 |.agg a=>gL a λa=>K (.agg a)
 |.clo f a=>gL a λa=>K (.clo f a)
 |s=>s.g0 K
theorem SV.g1_eq{α:Sort _}(s:SV)(K:SV->α):s.g1 K=K s:=by cases s<;>simp only[SV.g1,f5m,SV.g0_eq]
def XC{α:Sort _}:List SV->(List SV->α)->α
 | [],K=>K []
 |s::r,K=>s.g1 λs=>XC r λr=>K (s::r)
theorem f3w{α:Sort _}:∀(l:List SV) (K:List SV->α),XC l K=K l
 | [],_=>rfl
 |s::r,K=>by simp only[XC,SV.g1_eq,f3w r]
def gBlk{α:Sort _}(b:Blk)(K:Blk->α):α:=match b with
 |.cells T d=>gL d λd=>K (.cells T d)
 |.row T a n f c=>K (.row T a n f c)
 |.map T e h v=>K (.map T e h v)
 |.fam T g n j F=>K (.fam T g n j F)
 |.pmap T k h v=>MM k λk=>K (.pmap T k h v)
 |.rowh T a n f c i u=>gL u λu=>K (.rowh T a n f c i u)
 |.pool T a n l m o p=>K (.pool T a n l m o p)
 |.dead=>K .dead
theorem f89{α:Sort _}(b:Blk)(K:Blk->α):gBlk b K=K b:=by cases b<;>simp only[gBlk,f5m,b6y]
def memN:List Nat->Nat->Bool
 | [],_=>false
 |x::r,n=>match Nat.beq x n with
  |true=>true
  |false=>memN r n
theorem d2r:∀(l:List Nat) (n:Nat),memN l n=l.contains n
 | [],_=>rfl
 |x::r,n=>by
  simp only[memN,d2r r,List.contains_cons];split
  .rename_i h;simp[Nat.eq_of_beq_eq_true h]
  .rename_i h;have:¬n=x:=λe=>by rw[e,Nat.beq_refl]at h;cases h
   simp[this]
def Vz{α:Sort _}:List Nat->List Nat->(List Nat->α)->α
 |a,[],K=>K a
 |a,k::r,K=>MM k λk=>match memN a k with
  |true=>Vz a r K
  |false=>VW (a++[k]) λa=>Vz a r K
theorem b9p{α:Sort _}:∀(l a:List Nat) (K:List Nat->α),Vz a l K=K (Xu a l)
 | [],_,_=>rfl
 |k::r,a,K=>by
  simp only[Vz,b6y,b4t,Xu,d2r];split
  .rename_i h;rw[J7 h];exact b9p r _ K
  .rename_i h;rw[J8 (by rw[h];exact Bool.false_ne_true)];exact b9p r _ K
def c6c{α:Sort _}(own:List Blk):Nat->List Nat->(List Nat->α)->α
 |0,l,K=>K l
 |n+1,l,K=>Vz l (l.flatMap λk=>match own[k]? with|some b=>b.refs|none=>[]) λl=>c6c own n l K
theorem c1k{α:Sort _}{own:List Blk}:∀(n:Nat) (l:List Nat) (K:List Nat->α),c6c own n l K=K (close own n l)
 |0,_,_=>rfl
 |n+1,l,K=>by simp only[c6c,b9p,close,c1k n]
def selF{α:Sort _}(own:List Blk)(xs:List SV)(K:List Nat->α):α:=Vz [] (xs.flatMap SV.refs1) λl=>c6c own 2 l K
theorem g0a{α:Sort _}(own:List Blk)(xs:List SV)(K:List Nat->α):selF own xs K=K (Ny own xs):=by simp only[selF,b9p,c1k,Ny]
def Xb{β:Type _}(own:List Blk)(g:Nat->Option Nat):List Nat->(List Blk->Option β)->Option β
 | [],K=>K []
 |k::r,K=>match own[k]? with
  |some b=>gBlk (b.ren g) λb=>Xb own g r λa=>K (b::a)
  |none=>none
theorem c80{β:Type _}{own:List Blk}{g:Nat->Option Nat}:∀(l:List Nat) (K:List Blk->Option β),Xb own g l K=(l.mapM λk=>(own[k]?).map (Blk.ren g)).bind K
 | [],K=>by simp[Xb]
 |k::r,K=>by
  simp only[Xb,f89];split
  .rename_i b a;rw[c80 r];simp[a,Option.bind_assoc]
  .rename_i a;simp[a]
def Xf{β:Type _}(ρ:Operand->Option SV):List Operand->(List SV->Option β)->Option β
 | [],K=>K []
 |x::r,K=>match ρ x with
  |some s=>s.g1 λs=>Xf ρ r λa=>K (s::a)
  |none=>none
theorem c74{β:Type _}{ρ:Operand->Option SV}:∀(l:List Operand) (K:List SV->Option β),Xf ρ l K=(l.mapM ρ).bind K
 | [],K=>by simp[Xf]
 |x::r,K=>by
  simp only[Xf,SV.g1_eq];split
  .rename_i s hs;rw[c74 r];simp[hs,Option.bind_assoc]
  .rename_i hs;simp[hs]
def XM(E:Env)(own:List Blk)(ρ:Operand->Option SV)(g:Op):Option (Prop×SV×List Blk×List Nat):=
 match g with
 |.call c=>match c.callee with
  |.value f=>match ρ f with
   |some (.clo e a)=>(E.Hc e).bind λh=>(c.args.toList.mapM ρ).bind λd=>
    (((Ny own (d++a)).mapM λk=>(own[k]?).map (Blk.ren λk=>BQ k (Ny own (d++a))))).bind λb=>
      (h ((d++a).map (SV.ren1 λk=>BQ k (Ny own (d++a)))) b).bind λr=>
        if Rc (Ny own (d++a))&&decide (b.length<=r.own.length)&&r.chg.all (λj=>Rg b[j]?&& !E.ak ((Ny own (d++a)).getD j 0))then
         some (r.pre,r.res.ren2 (PR (Ny own (d++a)) own.length),RL (Ny own (d++a)) own r (r.chg.map λj=>(Ny own (d++a)).getD j 0),r.chg.map λj=>(Ny own (d++a)).getD j 0)
        else none
   |_=>none
  |_=>none
 |_=>none
def b8s(E:Env)(own:List Blk)(ρ:Operand->Option SV)(g:Op):Option (Prop×SV×List Blk×List Nat):=
 match g with
 |.call c=>match c.callee with
  |.value f=>match ρ f with
   |some (.clo d b)=>match E.Hc d with
    |some h=>Xf ρ c.args.toList λi=>XC (i++b) λe=>selF own e λsel=>
     Xb own (λk=>BQ k sel) sel λa=>XC (e.map (SV.ren1 λk=>BQ k sel)) λl=>match h l a with
      |some r=>match Rc sel&&decide (a.length<=r.own.length)&&r.chg.all (λj=>Rg a[j]?&& !E.ak (sel.getD j 0))with
       |true=>some (r.pre,r.res.ren2 (PR sel own.length),RL sel own r (r.chg.map λj=>sel.getD j 0),r.chg.map λj=>sel.getD j 0)
       |false=>none
      |none=>none
    |none=>none
   |_=>none
  |_=>none
 |_=>none
theorem b8d(E:Env)(own:List Blk)(ρ:Operand->Option SV)(e:Op):b8s E own ρ e=XM E own ρ e:=by
 unfold b8s XM;split
 .rename_i c;split
  .rename_i f;split
   .rename_i b a hf;cases hh:E.Hc b with
    |none=>simp
    |some h=>
     simp only[c74,f3w,g0a,c80,Lw];congr 1;funext xs;congr 1;funext lown;cases h (List.map (SV.ren1 λk=>BQ k (Ny own (xs++a))) (xs++a)) lown with
     |none=>simp
     |some r=>
      simp only[Lw];split
      .rename_i d;rw[J7 d]
      .rename_i d;rw[J8 (by rw[d];exact Bool.false_ne_true)]
   .rfl
  .rfl
 .rfl
section
variable{E:Env}{B0:Nat}{X A:Nat->Prop}{w0:World}{nt:Nat}{st:St}{a:Act}{w:World}{μ:Mu}
theorem b10:∀{l:List Nat},Rc l=true->l.Nodup
 | [],_=>N6
 |x::r,h=>by simp only[Rc,J3,Ni,Lc]at h;exact L5.2 ⟨h.1,b10 h.2⟩
theorem c25(hC:GI E)(h:SD E B0 X A w0 nt st a w μ){o:Oper}{pre:Prop}{s:SV}{own':List Blk}{M:List Nat}(G:XM E st.own (CM E st.ρ none) o.op=some (pre,s,own',M))(hp:pre)
 {K:Act->World->Prop} {Q:Exit->Act->World->Prop} (hK:∀v H μ',Own B0 X A H μ' own'->Fr B0 X w H->Keeps' M w H (held A μ) (held A μ') μ μ'->(∀k,own'.length<=k->μ' k=none)->(∀k x,E.an k=some x->μ' k=some x)->D H (held A μ') μ' s v->K (a.put o.dst v) H):o.wp E.P a w K Q:=by
 have hρ:=h.opds (g:=none) (λq b e=>E5);unfold XM at G;split at G;rotate_left
 .cases G
 rename_i c d9;split at G;rotate_left
 .cases G
 rename_i f hf;split at G;rotate_left
 .cases G
 rename_i fid N hρf;simp only[Jd]at G;obtain⟨l,X3,xs,m5,I,tc,r,hr,G⟩:=G;generalize hsel:Ny st.own (xs++N)=sel at G tc hr;split at G;rotate_left
 .cases G
 rename_i dz;simp only[Ip]at dz;obtain⟨⟨ny,ba⟩,zy⟩:=dz;simp only[Ii]at G;obtain⟨rfl,rfl,rfl,rfl⟩:=G;have nh:=b10 ny;obtain⟨m1,m2⟩:=OE tc;have fw:=hρ _ _ hρf;generalize sb:a.eval f=vf at fw;obtain⟨⟨fn,h1,h2,h3⟩,hS⟩:=hC.2.2 fid l X3;cases fw with
 |clo cvs fe qd=>
 have hD:=c5u (Tk (a:=a) hρ m5) (⟨fe,qd⟩:DL w (held A μ) μ N cvs);have hm:c.args.map a.eval=(c.args.toList.map a.eval).toArray:=F6;have bt:(execOp a.eval o).run E.P w=.ok (.enter fid ((c.args.toList.map a.eval)++cvs).toArray) w:=by simp only[execOp,d9,resolve,hf,sb,Deferred.ofValue,hm,Ij,invoke,callFunc,run_program,h1,h2,Ir,h3];simp
 let u:Mu:=λj=>(sel[j]?).bind μ
 let Z:Nat->Prop:=λb=>A b\/∃k x,k∉sel/\μ k=some x/\CN x b
 have z:∀{j x},u j=some x->∃k,sel[j]?=some k/\μ k=some x:=λd=>by simpa[u,Jd]using d
 have bc:∀b,held Z u b↔held A μ b:=by
  intro b;constructor
  .rintro((C|⟨k,x,_,l,hx⟩)|⟨j,x,d,hx⟩)
   .exact .inl C
   .exact .inr ⟨k,x,l,hx⟩
   .obtain⟨k,_,l⟩:=z d;exact .inr ⟨k,x,l,hx⟩
  .rintro(C|⟨k,x,l,hx⟩)
   .exact .inl (.inl C)
   .by_cases vq:k∈sel
    .obtain⟨j,d,e⟩:=K7.1 vq;exact .inr ⟨j,x,by simp[u,J6 d,e,l],hx⟩
    .exact .inl (.inr ⟨k,x,vq,l,hx⟩)
 have jz:∀k j x,BQ k sel=some j->μ k=some x->u j=some x:=λk j x d l=>by have:=QI d;simp[u,this,l]
 have zz:∀b,Z b->b<w.heap.size:=by
  rintro b (C|⟨k,x,_,l,hx⟩)
  .exact h.own.bnd b C
  .exact(h.own.rng k x b l hx).1
 have X4:Own 0 (λ_=>True) Z w u I:=by
  refine⟨λj x d=> ?_,λj j' x x' b d bn hx d8=> ?_,λj x b d hx=> ?_,zz⟩
  .obtain⟨k,l,hx⟩:=z d;obtain⟨bl,e,bb⟩:=h.own.blk k x hx;obtain⟨y,Y,J⟩:=m2 j k l;rw[e]at J;simp only[Kh,K0]at J;subst J;exact⟨_,Y,bb.ren (λb C=>(bc b).1 C) jz⟩
  .obtain⟨k,l,U⟩:=z d;obtain⟨V,L,vu⟩:=z bn;have:=h.own.inj k V x x' b U vu hx d8;subst this;have e1:=b18 nh l;have J:=b18 nh L;rw[e1]at J;cases J;rfl
  .obtain⟨k,l,U⟩:=z d;obtain⟨r1,r2,W⟩:=h.own.rng k x b U hx;refine⟨r1,?_,.inl (Jj _)⟩;rintro(C|⟨V,x',vq,L,d8⟩)
   .exact r2 C
   .have:=h.own.inj k V x x' b U L hx d8;subst this;exact vq (Jb l)
 have X5:DL w (held Z u) u ((xs++N).map (SV.ren1 λk=>BQ k sel)) ((c.args.toList.map a.eval)++cvs):=by refine⟨by simpa using hD.1,λi s v hs hv=> ?_⟩;simp only[In]at hs;obtain⟨s0,bz,rfl⟩:=hs;exact b1f (λb C=>(bc b).1 C) jz (hD.2 i s0 v bz hv)
 have hfreshc:∀j,I.length<=j->u j=none:=λj d=>by have:sel[j]?=none:=Li Dx;simp[u,this]
 have r9:∀g t,E.glob g=some t->t.pure=true/\D w (held Z u) BN t (.pointer (some ⟨g,0,none⟩)):=λg t hg=>
  ⟨(h.glo g t hg).1,GJ (λb C=>(bc b).1 C) (h.glo g t hg).2 (h.glo g t hg).1⟩
 unfold Oper.wp;rw[bt];refine(hS Z w _ _ I u r zz r9 X4 hfreshc X5 hr hp).mono ?_;rintro e H ⟨v,μ',rfl,gz,sc,g9,hsame,O⟩;suffices h5:∃m:Mu,Own B0 X A H m (RL sel st.own r (r.chg.map λj=>sel.getD j 0))/\Fr B0 X w H/\Keeps' (r.chg.map λj=>sel.getD j 0) w H (held A μ) (held A m) μ m/\(∀k,(RL sel st.own r (r.chg.map λj=>sel.getD j 0)).length<=k->m k=none)/\(∀k x,E.an k=some x->m k=some x)/\D H (held A m) m (r.res.ren2 (PR sel st.own.length)) v by
  obtain⟨m,q1,q2,q3,q4,q5,q6⟩:=h5;exact hK v H m q1 q2 q3 q4 q5 q6
 refine⟨λk=>match BQ k sel with|some j=>μ' j|none=>if st.own.length<=k then μ' (k-st.own.length+sel.length)else μ k,?_⟩;generalize R:(λk=>match BQ k sel with|some j=>μ' j|none=>if st.own.length<=k then μ' (k-st.own.length+sel.length)else μ k:Mu)=m;have hsel_lt:∀{k},k∈sel->k<st.own.length:=λl=>by obtain⟨j,d⟩:=L3.1 l;obtain⟨y,_,J⟩:=m2 j _ d;simp only[Jc]at J;obtain⟨b,C,_⟩:=J;exact(J9.1 C).1
 have c1:∀{k j},BQ k sel=some j->m k=μ' j:=λd=>by rw[<-R];simp[d]
 have c2:∀{k},st.own.length<=k->m k=μ' (k-st.own.length+sel.length):=λ{k} l=>by
  have:BQ k sel=none:=by
   cases e:BQ k sel with
   |none=>rfl
   |some j=>have:=hsel_lt (Jb (QI e));omega
  rw[<-R];simp[this,l]
 have c3:∀{k},BQ k sel=none->k<st.own.length->m k=μ k:=λ{k} h1 h2=>by rw[<-R];simp[h1,show¬st.own.length<=k from Dx]
 have m8:∀k j x,PR sel st.own.length k=some j->μ' k=some x->m j=some x:=by
  intro k j x d hx;simp only[PR,K0]at d;split at d
  .rename_i b6;have:sel[k]?=some j:=by rw[<-d];simp[J6 b6]
   rw[c1 (b18 nh this)];exact hx
  .rename_i rv;rw[c2 Dx,<-d,show st.own.length+(k-sel.length)-st.own.length+sel.length=k from Dx];exact hx
 have bh:∀{k x},m k=some x->(∃j,μ' j=some x/\(BQ k sel=some j\/(BQ k sel=none/\st.own.length<=k/\j=k-st.own.length+sel.length)))\/(BQ k sel=none/\k<st.own.length/\μ k=some x):=by
  intro k x hx;cases B:BQ k sel with
  |some j=>exact .inl ⟨j,by rw[<-c1 B];exact hx,.inl rfl⟩
  |none=>
   by_cases l:st.own.length<=k
   .exact .inl ⟨_,by rw[<-c2 l];exact hx,.inr ⟨rfl,l,rfl⟩⟩
   .exact .inr ⟨rfl,Dx,by rw[<-c3 B Dx];exact hx⟩
 have hX:∀{j x b},μ' j=some x->CN x b->b<H.heap.size/\¬Z b/\(w.heap.size<=b\/∃k y,k∈sel/\μ k=some y/\CN y b):=by
  intro j x b d C;obtain⟨r1,r2,W⟩:=gz.rng j x b d C;refine⟨r1,r2,?_⟩;rcases W with W|⟨i,y,B,Y⟩
  .exact .inl W
  .obtain⟨k,l,U⟩:=z B;exact .inr ⟨k,y,Jb l,U,Y⟩
 have hless:∀b,b<w.heap.size->held A m b->held A μ b:=by
  rintro b C (hA|⟨k,x,l,hx⟩)
  .exact .inl hA
  .rcases bh l with⟨j,d,_⟩|⟨_,_,L⟩
   .rcases(hX d hx).2.2 with h'|⟨V,y,_,Y,pj⟩
    .omega
    .exact .inr ⟨V,y,Y,pj⟩
   .exact .inr ⟨k,x,L,hx⟩
 have jg:∀b,held A m b->held Z μ' b:=by
  rintro b (hA|⟨k,x,l,hx⟩)
  .exact .inl (.inl hA)
  .rcases bh l with⟨j,d,_⟩|⟨B,_,L⟩
   .exact .inr ⟨j,x,d,hx⟩
   .exact .inl (.inr ⟨k,x,Ww B,L,hx⟩)
 have c7:Keeps' (r.chg.map λj=>sel.getD j 0) w H (held A μ) (held A m) μ m:=by
  refine⟨O.size,λb C hh=>O.block b C (λ⟨j,x,d,hx⟩=> ?_),hless,λk x l hx=> ?_,λk x l hx=> ?_⟩
  .obtain⟨k,_,U⟩:=z d;exact hh (.inr ⟨k,x,U,hx⟩)
  .have b6:k<st.own.length:=by
    rcases Nj k st.own.length with h'|h'
    .exact h'
    .rw[h.fresh k h']at hx;cases hx
   cases B:BQ k sel with
   |none=>rw[c3 B b6];exact hx
   |some j=>
    have d:=QI B;have jt:j<sel.length:=(J9.1 d).1;have pk:r.chg.contains j=false:=by
     cases hc:r.chg.contains j with
     |false=>rfl
     |true=>
      exfalso;apply l;simp only[Js];refine⟨j,Et,?_⟩;simp[d]
    rw[c1 B];exact hsame j x Dx pk (by simp[u,d,hx])
  .simp only[Js]at l;obtain⟨j,d,rfl⟩:=l;have ww:=Je.1 zy j d;simp only[K6]at ww;obtain⟨S,_⟩:=ww;obtain⟨bl,e,bb⟩:=h.own.blk _ _ hx;cases X6:sel[j]? with
   |none=>
    have:I[j]?=none:=Li (by have:=List.getElem?_eq_none_iff.1 X6;omega);rw[this]at S;cases S
   |some k0=>
    rw[show sel.getD j 0=k0 by simp[X6]]at e;obtain⟨y,Y,J⟩:=m2 j k0 X6;rw[e]at J;simp only[Kh,K0]at J;subst J;rw[Y]at S;cases bl with
    |row T sz n f c=>
     obtain⟨a',m',e1,_⟩:=bb;exact .inl ⟨_,_,_,e1⟩
    |fam T Ts n bw F=>
     obtain⟨ps,qs,e1,_,_⟩:=bb;exact .inr ⟨ps,qs,e1⟩
    |cells=>simp[Rg,Blk.ren]at S
    |map=>simp[Rg,Blk.ren]at S
    |pmap K k has BQ=>
     simp only[Blk.ren]at S;split at S<;>simp[Rg]at S
    |rowh=>simp[Rg,Blk.ren]at S
    |pool=>simp[Rg,Blk.ren]at S
    |dead=>simp[Rg,Blk.ren]at S
 have W7:Fr B0 X w H:=by
  refine⟨O.os,O.tape,O.output,O.drawn,O.size,λi B hx=>O.block i (K9 B h.base) (λ⟨j,x,d,S5⟩=> ?_)⟩;obtain⟨k,_,U⟩:=z d;rcases(h.own.rng k x i U S5).2.2 with h'|h'
  .omega
  .exact hx h'
 refine⟨⟨λk x l=> ?_,λk V x x' b l L hx d8=> ?_,λk x b l hx=> ?_,λb C=>K9 (h.own.bnd b C) O.size⟩,W7,c7,λk l=> ?_,λk x hx=> ?_,b1c jg m8 g9⟩
 .rcases bh l with⟨j,d,S6⟩|⟨B,b6,L⟩
  .obtain⟨bl,e,bb⟩:=gz.blk j x d;refine⟨bl.ren (PR sel st.own.length),?_,bb.ren jg m8⟩;rcases S6 with B|⟨B,rv,rfl⟩
   .have vq:=hsel_lt (Jb (QI B));unfold RL;rw[Jg (by rw[TO];exact vq),XY,J6 vq];simp[B,e]
   .unfold RL;rw[Jm (by rw[TO];exact rv),TO,Jz,Np,Nat.add_comm,e];rfl
  .obtain⟨bl,e,bb⟩:=h.own.blk k x L;refine⟨bl.kill _,?_,bb.change c7 (λb C=> ?_)⟩
   .unfold RL;rw[Jg (by rw[TO];exact b6),XY,e];simp[B]
   .refine O.block b (h.own.rng k x b L C).1 (λ⟨j,y,d,pj⟩=> ?_);obtain⟨k2,f9,hkx2⟩:=z d;have:=h.own.inj k k2 x y b L hkx2 C pj;subst this;exact Ww B (Jb f9)
 .rcases bh l with⟨j,d,S6⟩|⟨B,b6,j9⟩<;>rcases bh L with⟨j',bn,hj2'⟩|⟨b8,fh,P0⟩
  .have:=gz.inj j j' x x' b d bn hx d8;subst this;rcases S6 with B|⟨B,rv,e⟩<;>rcases hj2' with b8|⟨b8,hge',e'⟩
   .have a1:=QI B;have a2:=QI b8;rw[a1]at a2;cases a2;rfl
   .have:=(J9.1 (QI B)).1;omega
   .have:=(J9.1 (QI b8)).1;omega
   .omega
  .exact((hX d hx).2.1 (.inr ⟨V,x',Ww b8,P0,d8⟩)).elim
  .exact((hX bn d8).2.1 (.inr ⟨k,x,Ww B,j9,hx⟩)).elim
  .exact h.own.inj k V x x' b j9 P0 hx d8
 .rcases bh l with⟨j,d,S6⟩|⟨B,b6,j9⟩
  .obtain⟨r1,r2,W⟩:=hX d hx;refine⟨r1,λhA=>r2 (.inl hA),?_⟩;rcases W with W|⟨V,y,_,Y,pj⟩
   .exact .inl (Kz h.base W)
   .exact(h.own.rng V y b Y pj).2.2
  .obtain⟨r1,r2,W⟩:=h.own.rng k x b j9 hx;exact⟨K9 r1 O.size,r2,W⟩
 .have f9:(RL sel st.own r (r.chg.map λj=>sel.getD j 0)).length=st.own.length+(r.own.length-sel.length):=by
   unfold RL;simp[TO]
  rw[f9]at l;rw[c2 Dx];exact sc _ Dx
 .have hx0:=h.anc k x hx;have pz:=Env.an_ak hx;refine c7.own k x (λl=> ?_) hx0;simp only[Js]at l;obtain⟨j,d,rfl⟩:=l;have ww:=Je.1 zy j d;simp only[J3]at ww;rw[pz]at ww;cases ww.2
theorem d0r(g:GI E)(h:SD E B0 X A w0 nt st a w μ){o:Oper}{c:Prop}{s:SV}{own':List Blk}{b:List Nat}(i:XM E st.own (CM E st.ρ none) o.op=some (c,s,own',b))(j:c)(k:JL nt o.dst=true)
 {K:Act->World->Prop} {Q:Exit->Act->World->Prop} (l:∀e d μ',SD E B0 X A w0 nt ⟨KI o.dst none s (UB b st.ρ),own'⟩ e d μ'->K e d):o.wp E.P a w K Q:=
 c25 g h i j (λ_ d μ' m n f p q r=>l _ d μ' (h.put m n (b1p f h.glo) (h.env.change f) p q k r))
end
section
variable{w:World}{H H':Nat->Prop}{μ μ':Mu}
theorem D.shift(A:∀b,H' b->H b)(f:∀j x,μ j=some x->(∀n z,x≠BL n z)->μ' j=some x)
 (E:∀j n z,μ j=some (BL n z)->∃k l,μ' j=some (BL k l)/\∀(i:Nat) (p:Value),n[i]?=some p->k[i]?=some p) {s:SV} {v:Value} (h:D w H μ s v):D w H' μ' s v:=by
 induction h with
 |int=>exact .int
 |bool=>exact .bool
 |con=>exact .con
 |own h=>exact .own (f _ _ h (λ_ _ e=>E5))
 |osl h=>exact .osl (f _ _ h (λ_ _ e=>E5))
 |oel h=>exact .oel (f _ _ h (λ_ _ e=>E5))
 |omp h=>exact .omp (f _ _ h (λ_ _ e=>E5))
 |mp r g q B c t d=>exact .mp r g (λu=>q (A _ u)) B c d
 |sl a b o m g B hx F C c t d=>
  exact .sl a b o m g B hx F (λG=>by obtain⟨e,q,I⟩:=C G;exact⟨e,λu=>q (A _ u),I⟩) c d
 |rel b o g J q C c t d=>exact .rel b o g J (λu=>q (A _ u)) C c d
 |agg y c t d=>exact .agg y c d
 |tup y c t d=>exact .tup y c d
 |clo y c t d=>exact .clo y c d
 |fp h=>exact D.fp_mk (λn z e=>by obtain⟨k,l,K,L⟩:=E _ _ _ e;exact⟨k,l,K,λp=>L _ p⟩) h
 |ub M N=>exact .ub M N
 |any=>exact .any
theorem RN.shift(a:∀s v,D w H μ s v->D w H' μ' s v){x:Value}{T:TypeId}{cs:List SV}(h:RN w H μ x T cs):RN w H' μ' x T cs:=by obtain⟨b,c,rfl,d,e,f,g⟩:=h;exact⟨b,c,rfl,d,e,f,λi s v hs j=>a _ _ (g i s v hs j)⟩
theorem JC.shift(g:∀s v,s.pure=true->D w H μ s v->D w H' μ' s v){x:Value}{T:TypeId}{sz n:Nat}{f:Nat->List SV}{c:Option Nat}(h:JC w H μ x T sz n f c):JC w H' μ' x T sz n f c:=by
 obtain⟨a,m,rfl,k,l,p,d,q⟩:=h;refine⟨a,m,rfl,k,l,p,d,?_⟩;rcases q with h|⟨b,o,r,t,rfl,u,y,z,A⟩
 .exact .inl h
 .exact .inr ⟨b,o,r,t,rfl,u,y,z,λi j s v e hs B=>g _ _ (Je.1 (d i e).2 s (Jb hs)) (A i j s v e hs B)⟩
theorem FamOK.less(e:∀b,H' b->H b){T:TypeId}{a:List (TypeId×Nat)}{n:Nat}{c:Option Nat}{F:Nat->Mem}{ps:List Value}{d:List (List Value)}(h:FamOK w H T a n c F ps d):FamOK w H' T a n c F ps d:=
 h.keep ⟨Jf _,λ_ _ _=>rfl,λb _=>e b⟩ (λ_ _=>rfl)
theorem DI.shift(hH:∀b,H' b->H b)(m:∀j x,μ j=some x->(∀ps qs,x≠BL ps qs)->μ' j=some x)
 (A:∀j ps qs,μ j=some (BL ps qs)->∃a d,μ' j=some (BL a d)/\∀(i:Nat) (p:Value),ps[i]?=some p->a[i]?=some p) {x:Value} {bl:Blk} (h:DI w H μ x bl):DI w H' μ' x bl:=by
 have l:∀s v,D w H μ s v->D w H' μ' s v:=λs v h=>h.shift hH m A;cases bl with
 |cells T cs=>exact RN.shift l h
 |row T B n f c=>exact JC.shift (λs v _=>l s v) h
 |map K ag o val=>
  obtain⟨r,g,rfl,t,E,y⟩:=h;exact⟨r,g,rfl,t,E,λq i s v z hs G=>l _ _ (y q i s v z hs G)⟩
 |fam T Ts n bw F=>
  obtain⟨ps,qs,rfl,h,I⟩:=h;refine⟨ps,qs,rfl,h.less hH,λi c e=> ?_⟩;obtain⟨p,e1,J⟩:=I i c e;have L:i<n:=Gy;obtain⟨b,us,C,_⟩:=h.mem i L;rw[e1]at C;cases C;exact⟨_,e1,m _ _ J (λ_ _ e=>E5)⟩
 |pmap K k o BQ=>
  obtain⟨⟨ps,qs,M⟩,r,g,rfl,t,y⟩:=h;obtain⟨a,d,N,_⟩:=A _ _ _ M;exact⟨⟨a,d,N⟩,r,g,rfl,t,λq z=>by obtain⟨p,e,h⟩:=y q z;exact⟨p,e,l _ _ h⟩⟩
 |rowh T B n f c i u=>
  have:=OM.to id (λ_ _=>rfl) (λs v _ h=>l s v h) l h;rwa[List.map_id]at this
 |pool T B n l al ln ct=>
  obtain⟨ps,qs,rfl,h⟩:=h;exact D9
 |dead=>exact Ja
end
section
theorem EQ.shift{w:World}{H H':Nat->Prop}{μ μ':Mu}{tmps:Array Value}{ρ:List Entry}(a:∀s v,D w H μ s v->D w H' μ' s v)(h:EQ w H μ tmps ρ):EQ w H' μ' tmps ρ:=by
 intro t e b;have:=h t e b;unfold CZ at this⊢;split at this
 .exact a _ _ this
 .exact⟨λc=>a _ _ (this.1 c),this.2⟩
end
def EH(c m k:Nat):Bool:=decide (c<=k)&&decide (k<=c+m)
def SV.ment0(c m:Nat):SV->Bool
 |.own k _|.osl k|.omp k|.oel k _ _ _=>EH c m k
 |.fp _ k _ _=>EH c m k
 |.agg _|.tup _=>true
 |.clo _ a=> !a.isEmpty
 |_=>false
def SV.uf0(c m:Nat)(s:SV):SV:=match s with
 |.clo f a=>if a.all (λs=> !s.ment0 c m)then .clo f a else .any
 |s=>if s.ment0 c m then .any else s
def SV.uf1(c m:Nat):SV->SV
 |.agg a=>.agg (a.map (SV.uf0 c m))
 |s=>s.uf0 c m
def SV.uf2(c m:Nat):SV->SV
 |.tup a=>.tup (a.map (SV.uf1 c m))
 |s=>s.uf1 c m
def Blk.uf(c m:Nat):Blk->Blk
 |.cells T e=>.cells T (e.map (SV.uf0 c m))
 |.pmap K k a BQ=>if EH c m k then .dead else .pmap K k a BQ
 |.fam T g n (some (i,d)) F=>if EH c m d then .dead else .fam T g n (some (i,d)) F
 |.rowh T h n f j i u=>.rowh T h n f j i (u.map (SV.uf0 c m))
 |b=>b
structure Drop (c m:Nat) (H H':Nat->Prop) (μ μ':Mu):Prop where
 less:∀b,H' b->H b
 own:∀j x,EH c m j=false->μ j=some x->(∀ps qs,x≠BL ps qs)->μ' j=some x
 fam:∀j ps qs,EH c m j=false->μ j=some (BL ps qs)->∃ps' qs',μ' j=some (BL ps' qs')/\∀(i:Nat) (p:Value),ps[i]?=some p->ps'[i]?=some p
section
variable{w:World}{H H':Nat->Prop}{μ μ':Mu}{c m:Nat}
theorem XL(d:Drop c m H H' μ μ'){s:SV}{v:Value}(h:D w H μ s v)(hs:s.ment0 c m=false):D w H' μ' s v:=by
 cases h with
 |own h=>exact .own (d.own _ _ hs h (λ_ _ e=>E5))
 |osl h=>exact .osl (d.own _ _ hs h (λ_ _ e=>E5))
 |oel h=>exact .oel (d.own _ _ hs h (λ_ _ e=>E5))
 |omp h=>exact .omp (d.own _ _ hs h (λ_ _ e=>E5))
 |fp h=>exact D.fp_mk (λps qs e=>by obtain⟨j,k,t,u⟩:=d.fam _ _ _ hs e;exact⟨j,k,t,λp=>u _ p⟩) h
 |agg vs hl f=>simp[SV.ment0]at hs
 |tup vs hl f=>simp[SV.ment0]at hs
 |clo vs hl f=>
  simp only[SV.ment0,Bool.not_eq_false',List.isEmpty_iff]at hs;subst hs;exact Cb
 |int=>exact .int
 |bool=>exact .bool
 |con=>exact .con
 |ub x y=>exact .ub x y
 |any=>exact .any
 |sl a b o m g l hx z n hl f=>exact HJ d.less (.sl a b o m g l hx z n hl f) rfl
 |rel b o g A q n hl f=>exact HJ d.less (.rel b o g A q n hl f) rfl
 |mp r g q l hl f=>exact HJ d.less (.mp r g q l hl f) rfl
theorem XD(a:Drop c m H H' μ μ'){s:SV}{v:Value}(h:D w H μ s v):D w H' μ' (s.uf0 c m) v:=by
 unfold SV.uf0;split
 .split
  .rename_i b;cases h with
   |clo d e f=>
    exact .clo d e (λi s v hs g=>XL a (f i s v hs g) (by simpa using Je.1 b s (Jb hs)))
  .exact .any
 .split
  .exact .any
  .rename_i hs;exact XL a h Fs
theorem c83(a:Drop c m H H' μ μ'){s:SV}{v:Value}(h:D w H μ s v):D w H' μ' (s.uf1 c m) v:=by
 unfold SV.uf1;split
 .cases h with
  |agg b hl d=>
   refine .agg b Eb (λi s v hs e=> ?_);simp only[In]at hs;obtain⟨f,g,rfl⟩:=hs;exact XD a (d i f v g e)
 .exact XD a h
theorem c5s(a:Drop c m H H' μ μ'){s:SV}{v:Value}(h:D w H μ s v):D w H' μ' (s.uf2 c m) v:=by
 unfold SV.uf2;split
 .cases h with
  |tup b hl d=>
   refine .tup b Eb (λi s v hs e=> ?_);simp only[In]at hs;obtain⟨f,g,rfl⟩:=hs;exact c83 a (d i f v g e)
 .exact c83 a h
theorem DI.drop(a:Drop c m H H' μ μ'){x:Value}{bl:Blk}(h:DI w H μ x bl):DI w H' μ' x (bl.uf c m):=by
 cases bl with
 |cells T cs=>
  obtain⟨b,M,rfl,j,hl,N,I⟩:=h;refine⟨b,M,rfl,j,Eb,N,λi s v hs y=> ?_⟩;simp only[In]at hs;obtain⟨O,P,rfl⟩:=hs;exact XD a (I i O v P y)
 |row T J n f c=>exact JC.shift (λs v z hs=>HJ a.less hs z) h
 |map K ag A val=>
  obtain⟨r,g,rfl,B,hl,C⟩:=h;exact⟨r,g,rfl,B,hl,λq i s v o hs y=>HJ a.less (C q i s v o hs y) (Je.1 (hl q o).2 s (Jb hs))⟩
 |fam T Ts n Q F=>
  obtain⟨ps,l,rfl,h,j⟩:=h;match Q,h,j with
  |none,h,j=>exact⟨ps,l,rfl,h.less a.less,λi c e=>E5⟩
  |some (i,d),h,j=>
   simp only[Blk.uf];split
   .exact Ja
   rename_i t;refine⟨ps,l,rfl,h.less a.less,λi' c' e=> ?_⟩;cases e;obtain⟨p,e1,R⟩:=j i d rfl;have S:i<n:=Gy;obtain⟨b,us,L,_⟩:=h.mem i S;rw[e1]at L;cases L;exact⟨_,e1,a.own _ _ (by simpa using t) R (λ_ _ e=>E5)⟩
 |pmap K k A BQ=>
  simp only[Blk.uf];split
  .exact Ja
  rename_i t;obtain⟨⟨ps,l,U⟩,r,g,rfl,B,C⟩:=h;obtain⟨E,G,V,_⟩:=a.fam _ _ _ (by simpa using t) U;exact⟨⟨E,G,V⟩,r,g,rfl,B,λq o=>by obtain⟨p,e,h⟩:=C q o;exact⟨p,e,XL a h (by simpa[SV.ment0]using t)⟩⟩
 |rowh T J n f cp i u=>exact OM.to (SV.uf0 c m) (λ_ _=>rfl) (λs v z h=>HJ a.less h z) (λs v h=>XD a h) h
 |pool T J n I al ln ct=>
  obtain⟨ps,l,rfl,h⟩:=h;exact⟨ps,l,rfl,h.keep (ps:=ps) ⟨Jf _,λ_ _ _=>rfl,λb _=>a.less b⟩ (λ_ _=>rfl)⟩
 |dead=>exact Ja
theorem EQ.drop(a:Drop c m H H' μ μ'){tmps:Array Value}{ρ:List Entry}(h:EQ w H μ tmps ρ):EQ w H' μ' tmps (ρ.map λe=>{e with sv:=e.sv.uf2 c m}):=by
 intro t e b;rw[UJ (f:=λ(e:Entry)=>{e with sv:=e.sv.uf2 c m}) (λ_=>rfl),Jc]at b;obtain⟨d,g,rfl⟩:=b;have:=h t d g;unfold CZ at this⊢;simp only;split at this
 .exact c5s a this
 .exact⟨λi=>c5s a (this.1 i),this.2⟩
end
def nilB:SV->Bool
 |.con (.slice none 0 0)=>true
 |_=>false
def lz:Nat->List SV->List SV
 |_,[]=>[]
 |t,s::r=>match nilB s with
  |true=>.osl t::lz (t+1) r
  |false=>s::lz t r
def Pv:List SV->Nat
 | []=>0
 |s::r=>match nilB s with
  |true=>Pv r+1
  |false=>Pv r
theorem c1a:∀(t:Nat) (l:List SV),(lz t l).length=l.length
 |_,[]=>rfl
 |t,s::r=>by simp only[lz];split<;>simp[c1a]
theorem d3j:∀(t:Nat) (l:List SV) (i:Nat) (s:SV),(lz t l)[i]?=some s->(∃j,s=.osl j/\t<=j/\j<t+Pv l/\l[i]?=some (.con (.slice none 0 0)))\/l[i]?=some s
 |_,[],i,s,h=>by simp[lz]at h
 |t,x::r,i,s,h=>by
  simp only[lz]at h;split at h
  .rename_i a;have hx:x=.con (.slice none 0 0):=by
    unfold nilB at a;split at a
    .rfl
    .cases a
   have b:Pv (x::r)=Pv r+1:=by simp only[Pv,a]
   match i with
   |0=>simp at h;exact .inl ⟨t,h.symm,Jf _,Dx,Eh⟩
   |i+1=>
    rcases d3j (t+1) r i s E4 with⟨j,c,d,e,h4⟩|h4
    .exact .inl ⟨j,c,Dx,Dx,Fg⟩
    .exact .inr Fg
  .rename_i a;have b:Pv (x::r)=Pv r:=by simp only[Pv,a]
   match i with
   |0=>exact .inr h
   |i+1=>
    rcases d3j t r i s E4 with⟨j,c,d,e,h4⟩|h4
    .exact .inl ⟨j,c,d,Dx,Fg⟩
    .exact .inr Fg
def b5d(E:Env)(st:St)(T:TypeId)(g sk h:SV):Option (Prop×St):=match g with
 |.omp a=>match st.own[a]? with
  |some (.pmap K k c BQ)=>match h with
   |.own j 0=>match st.own[k]?,st.own[j]? with
    |some (.fam f d n none F),some (.cells i b)=>match E.P.underlying T with
     |some (.map _ _)=>if E.kt T=some K/\f=i/\Pv b=d.length/\(lz 0 b).all SV.memc=true/\b.all SV.pure=true/\j≠k/\a≠k/\a≠j/\E.ak k=false/\E.ak j=false then
      (We K sk).map λq=>(True,⟨st.ρ.map λe=>{e with sv:=e.sv.uf2 j 0},
        (((st.own.map (Blk.uf j 0)).set k (.fam f d (n+1) none (λx=>if x=n then⟨lz 0 b,d.map λ_=>(0,λ_=>[])⟩else F x))).set j .dead).set a (.pmap K k (HT c q) (λp=>if p=q then n else BQ p))⟩)
      else none
     |_=>none
    |_,_=>none
   |_=>none
  |_=>none
 |_=>none
section
variable{E:Env}{B0:Nat}{X A:Nat->Prop}{w0:World}{nt:Nat}{st:St}{a:Act}{w:World}{μ:Mu}
theorem b6z(hE:EnvOK E)(h:SD E B0 X A w0 nt st a w μ){T:TypeId}{m i x:SV}{vm vi vx:Value}{pre:Prop}{Y:St}(hm:D w (held A μ) μ m vm)(hi:D w (held A μ) μ i vi)(hx:D w (held A μ) μ x vx)(C:b5d E st T m i x=some (pre,Y)):
 ∃w' μ',(Instr.mapUpdate T vm vi vx).run E.P w=.ok () w'/\SD E B0 X A w0 nt Y a w' μ':=by
 unfold b5d at C;split at C;rotate_left
 .cases C
 rename_i S;split at C;rotate_left
 .cases C
 rename_i K k Z BQ X7;split at C;rotate_left
 .cases C
 rename_i j;split at C;rotate_left
 .cases C
 rename_i Tf Ts n F Tc cs hk hj;split at C;rotate_left
 .cases C
 rename_i ky elem hT;split at C;rotate_left
 .cases C
 rename_i I;obtain⟨vg,rfl,hnil,t8,ra,S7,P1,hj0j,pz,O8⟩:=I;simp only[Ih]at C;obtain⟨q,hq,rfl,rfl⟩:=C;obtain⟨ky',elem',qx,m6⟩:=hE.kt T K vg;rw[hT]at qx;cases qx;obtain⟨rfl,n9⟩:=b1j hq hi;cases hm with
 |omp f=>
 cases hx with
 |own d=>
 rename_i b;obtain⟨bl,e,bb⟩:=h.own.blk _ _ f;rw[X7]at e;cases e;obtain⟨⟨ps,M,hμk⟩,r,g,e1,qw,hD⟩:=bb;cases e1;obtain⟨bl,e,bb⟩:=h.own.blk _ _ hμk;rw[hk]at e;cases e;obtain⟨ps',qs',e1,cy,_⟩:=bb;obtain⟨rfl,rfl⟩:=Ot e1;simp only[Option.map_none]at cy;obtain⟨bl,e,bb⟩:=h.own.blk _ _ d;rw[hj]at e;cases e;obtain⟨b',vs,e1,hh,hl,df,hd⟩:=bb;cases e1;have hv:(Value.pointer (some ⟨b,0,none⟩))=HV false [.pointer (some ⟨b,0,none⟩)]:=rfl;obtain⟨o,bt,vn⟩:=b2z (w:=w) hv hT m6 qw n9;have b6:=qw.lt;have m9:k<st.own.length:=(J9.1 hk).1;have md:j<st.own.length:=(J9.1 hj).1;have hj0lt:S<st.own.length:=(J9.1 X7).1;let B:List Value:=.pointer (some ⟨b,0,none⟩)::Ts.map λ_=>Value.slice none 0 0
 let μ':Mu:=λy=>if y=k then some (BL (ps++[.pointer (some ⟨b,0,none⟩)]) (M++[B]))else if y=j then none else μ y
 have m1:μ' k=some (BL (ps++[.pointer (some ⟨b,0,none⟩)]) (M++[B])):=by simp[μ']
 have m2:μ' j=none:=by simp[μ',S7]
 have m3:∀y,y≠k->y≠j->μ' y=μ y:=λy N O=>by simp[μ',N,O]
 have bh:∀{y x},μ' y=some x->(y=k/\x=BL (ps++[.pointer (some ⟨b,0,none⟩)]) (M++[B]))\/(y≠k/\y≠j/\μ y=some x):=by
  intro y x hy;by_cases e1:y=k
  .exact Da
  .by_cases G:y=j
   .subst G;rw[m2]at hy;cases hy
   .rw[m3 y e1 G]at hy;exact .inr ⟨e1,G,hy⟩
 have me:∀(Q:Nat) (u:Value) (c:Nat),B[Q]?=some u->FC u=some c->Q=0/\c=b:=by
  intro Q u c N O;match Q with
  |0=>simp[B]at N;subst N;simp[FC]at O;exact⟨rfl,O.symm⟩
  |Q+1=>
   simp only[B,Lb,In]at N;obtain⟨_,_,rfl⟩:=N;rw[XB]at O;cases O
 have cx:∀{i' j' J u c},M[i']?=some J->J[j']?=some u->FC u=some c->CN (BL ps M) c:=λg1 l L=>Nz.2 ⟨_,_,Jb g1,Jb l,L⟩;have H:∀{y x c},μ' y=some x->CN x c->(y=k/\CN (BL ps M) c)\/(y=k/\c=b)\/(y≠k/\y≠j/\μ y=some x):=by
  intro y x c hy hx;rcases bh hy with⟨rfl,rfl⟩|V
  .obtain⟨J,u,g1,l,L⟩:=Nz.1 hx;rcases Jt.1 g1 with g1|g1
   .exact .inl ⟨rfl,Nz.2 ⟨J,u,g1,l,L⟩⟩
   .simp only[Jw]at g1;subst g1;obtain⟨Q,O9⟩:=L3.1 l;exact .inr (.inl ⟨rfl,(me Q u c O9 L).2⟩)
  .exact .inr (.inr V)
 have U:CN (.pointer (some ⟨b,0,none⟩)) b:=c58.2 rfl;have bc:∀c,held A μ' c->held A μ c:=by
  rintro c (I|⟨y,x,hy,hx⟩)
  .exact .inl I
  .rcases H hy hx with⟨_,N⟩|⟨_,rfl⟩|⟨_,_,V⟩
   .exact .inr ⟨k,_,hμk,N⟩
   .exact .inr ⟨j,_,d,U⟩
   .exact .inr ⟨y,x,V,hx⟩
 have td:CN (.map (some r)) r:=d2i.2 rfl;have c7:Keeps w (MU w r o) (held A μ) (held A μ) μ μ:=⟨Ft,λc _ I=>Sv (λe=>I (by subst e;exact .inr ⟨S,_,f,td⟩)),λ_ _ h=>h,λ_ _ h=>h⟩
 have dn:Drop j 0 (held A μ) (held A μ') μ μ':=by
  refine⟨bc,λy x hy hx S1=> ?_,λy ps2 qs2 hy hx=> ?_⟩
  .have e1:y≠j:=λe=>by subst e;simp[EH]at hy
   have G:y≠k:=λe=>Hw;rw[m3 y G e1];exact hx
  .have e1:y≠j:=λe=>by subst e;simp[EH]at hy
   by_cases G:y=k
   .subst G;rw[hμk]at hx;obtain⟨rfl,rfl⟩:=Ot (Kf hx);exact⟨_,_,m1,λi p hp=>by rw[Jg (J9.1 hp).1];exact hp⟩
   .exact⟨ps2,qs2,(m3 y G e1).trans hx,λ_ _ h=>h⟩
 have hB:=(h.own.rng S _ r f td).2.2;have X8:∀y x,y≠S->μ y=some x->∀c,CN x c->(MU w r o).heap[c]?=w.heap[c]?:=λy x hy hx c I=>Sv (λe=>by subst e;exact hy (h.own.inj y S x _ _ hx f I td))
 have vz:∀s v,s.pure=true->D w (held A μ) μ s v->D (MU w r o) (held A μ') μ' s v:=λs v hp hs=>HJ bc (hs.keep c7) hp;refine⟨_,μ',bt,⟨λy x hy=> ?_,λy y' x x' c hy W hx d8=> ?_,λy x c hy hx=> ?_,λc I=>by rw[WO];exact h.own.bnd c I⟩,h.fr.trans ⟨rfl,rfl,rfl,λ_=>Jf _,Ft,λi hi hX=>Sv (λe=>by subst e;rcases hB with hb|hb;omega;exact hX hb)⟩,
  by rw[WO];exact h.base,λg s hg=>⟨(h.glo g s hg).1,vz _ _ (h.glo g s hg).1 (h.glo g s hg).2⟩,h.dfr,h.size,(h.env.keep c7).drop dn,λy hy=> ?_,λy x hx=> ?_⟩
 .rcases bh hy with⟨rfl,rfl⟩|⟨P2,hyj,W⟩
  .refine⟨.fam Tf Ts (n+1) none (λx=>if x=n then⟨lz 0 cs,Ts.map λ_=>(0,λ_=>[])⟩else F x),by rw[Jk P1,Jk S7,Ki (by simpa using m9)],_,_,rfl,⟨by simp[cy.pl],by simp[cy.ql],λi1 j1 i2 j2 R J u1 u2 c g1 l L g4 g5 g6=> ?_,λi1 f7=> ?_⟩,λi c e=>E5⟩
   .have at':∀{i us},(M++[B])[i]?=some us->M[i]?=some us/\i<M.length\/i=M.length/\us=B:=by
     intro i us hi;by_cases b6:i<M.length
     .rw[Jg b6]at hi;exact .inl ⟨hi,b6⟩
     .rw[Jm Dx]at hi;match bv:i-M.length,hi with
      |0,hi=>simp at hi;exact .inr ⟨Dx,hi.symm⟩
      |z+1,hi=>simp at hi
    rcases at' g1 with⟨k1,_⟩|⟨e1,rfl⟩<;>rcases at' g4 with⟨k4,_⟩|⟨G,rfl⟩
    .exact cy.nd i1 j1 i2 j2 R J u1 u2 c k1 l L k4 g5 g6
    .have:=(me j2 u2 c g5 g6).2;subst this;exact absurd (h.own.inj y j _ _ c hμk d (cx k1 l L) U) (Ne.symm S7)
    .have:=(me j1 u1 c l L).2;subst this;exact absurd (h.own.inj y j _ _ c hμk d (cx k4 g5 g6) U) (Ne.symm S7)
    .exact⟨Dx,(me j1 u1 c l L).1.trans (me j2 u2 c g5 g6).1.symm⟩
   .by_cases fh:i1<n
    .obtain⟨b1,R,g1,l,L⟩:=cy.mem i1 fh;refine⟨b1,R,by rw[Jg (by rw[cy.pl];exact fh)];exact g1,by rw[Jg (by rw[cy.ql];exact fh)];exact l,.inr ⟨Dz,?_⟩⟩;rcases L with⟨L,_⟩|⟨_,us3,e3,g4⟩
     .cases L
     .refine⟨us3,e3,?_⟩;rw[J8 Dx];refine g4.keep ⟨Ft,λc _ I=>Sv (λe=>I (by subst e;exact .inr ⟨S,_,f,td⟩)),λc _=>bc c⟩ (λu c hu wu=>X8 y _ (Ne.symm P1) hμk c (Nz.2 ⟨R,u,Jb l,?_,wu⟩));subst e3;rcases hu with rfl|hu
      .simp
      .simp[hu]
    .have:i1=n:=Dx;subst this;refine⟨b,B,Id,by rw[Jm (by rw[cy.ql];exact Jf _),cy.ql,Kw];rfl,.inr ⟨Dz,_,rfl,?_⟩⟩;rw[J7 rfl];refine⟨⟨b,vs,rfl,(X8 j _ (Ne.symm hj0j) d b U).trans hh,by rw[hl,c1a],df,λi s v hs hv=> ?_⟩,t8,Dz,Dz,λt tt rr u N O V=> ?_⟩
     .rcases d3j 0 cs i s hs with⟨Q,rfl,_,O9,gp⟩|gp
      .have:=hd i _ v gp hv;cases this;have hjj':Q<Ts.length:=by rw[<-hnil];omega
       exact .osl (n:=0) (m:=0) (a:=none) (by simp[Xn,J6 hjj'])
      .exact HJ bc ((hd i s v gp hv).keep c7) (Je.1 ra s (Jb gp))
     .simp only[In]at O V;obtain⟨_,_,rfl⟩:=O;obtain⟨_,_,rfl⟩:=V;exact⟨none,0,rfl,Jf _,Fb,.inl rfl,λi hi=>absurd hi (Jv _),.inl rfl⟩
  .obtain⟨bl,e,hb⟩:=h.own.blk y x W;have hylt:y<st.own.length:=(J9.1 e).1;by_cases ey:y=S
   .subst ey;rw[X7]at e;cases e;rw[f]at W;cases W;refine⟨.pmap K k (HT Z q) (λp=>if p=q then n else BQ p),by rw[Ki (by simpa using hylt)],⟨_,_,m1⟩,r,_,rfl,vn,λp hp=> ?_⟩;by_cases ep:p=q
    .refine⟨.pointer (some ⟨b,0,none⟩),by simp[ep],?_⟩;simp only[ep,Kp];refine .fp ?_;simp only[Kp];exact⟨_,_,b,m1,Id,rfl⟩
    .have v7:Z p=true:=H0;obtain⟨v,e,j5⟩:=hD p v7;refine⟨v,by simp[ep,e],?_⟩;simp only[ep,if_false];exact XL dn (j5.keep c7) (by simp[SV.ment0,EH];omega)
   .refine⟨bl.uf j 0,by rw[Jk (Ne.symm ey),Jk (Ne.symm hyj),Jk (Ne.symm P2),Jz,e];rfl,?_⟩;exact(hb.keep c7 (λc I=>X8 y x ey W c I)).drop dn
 .rcases H hy hx with⟨e1,g1⟩|⟨e1,g1⟩|⟨e1,e1',g1⟩<;>rcases H W d8 with⟨G,l⟩|⟨G,l⟩|⟨G,e2',l⟩
  .omega
  .omega
  .exact absurd (h.own.inj y' k _ _ c l hμk d8 g1) G
  .omega
  .omega
  .subst g1;exact absurd (h.own.inj y' j _ _ c l d d8 U) e2'
  .exact absurd (h.own.inj y k _ _ c g1 hμk hx l) e1
  .subst l;exact absurd (h.own.inj y j _ _ c g1 d hx U) e1'
  .exact h.own.inj y y' x x' c g1 l hx d8
 .rw[WO];rcases H hy hx with⟨e1,g1⟩|⟨e1,g1⟩|⟨e1,e1',g1⟩
  .exact h.own.rng k _ c hμk g1
  .subst g1;exact h.own.rng j _ c d U
  .exact h.own.rng y x c g1 hx
 .simp only[Kq,K8]at hy;rw[m3 y Dx Dx];exact h.fresh y hy
 .have e1:y≠k:=λe=>H1;have G:y≠j:=λe=>by subst e;rw[Env.an_ak hx]at O8;cases O8
  rw[m3 y e1 G];exact h.anc y x hx
end
def SV.fz0(s:SV)(k:Nat)(t:SV):SV:=match s with
 |.osl j=>if j=k then t else .osl j
 |s=>s.kill0 [k]
def SV.fz1(s:SV)(k:Nat)(t:SV):SV:=match s with
 |.agg a=>.agg (a.map λs=>s.fz0 k t)
 |s=>s.fz0 k t
def SV.fz2(s:SV)(k:Nat)(t:SV):SV:=match s with
 |.tup a=>.tup (a.map λs=>s.fz1 k t)
 |s=>s.fz1 k t
def Blk.fz(b:Blk)(k:Nat)(t:SV):Blk:=match b with
 |.cells T d=>.cells T (d.map λs=>s.fz0 k t)
 |.pmap K j a BQ=>if j=k then .dead else .pmap K j a BQ
 |.rowh T e n f c i u=>.rowh T e n f c i (u.map λs=>s.fz0 k t)
 |b=>b
def Mu.drop(k:Nat)(μ:Mu):Mu:=λj=>if j=k then none else μ j
section
variable{w:World}{H H':Nat->Prop}{μ μ':Mu}{k:Nat}{t:SV}
theorem b1b(a:Keeps' [k] w w H H' μ μ')(b:∀v,μ k=some v->D w H' μ' t v){s:SV}{v:Value}(h:D w H μ s v):D w H' μ' (s.fz0 k t) v:=by
 unfold SV.fz0;split
 .rename_i j;split
  .rename_i e;subst e;cases h with
   |osl h=>exact b _ h
  .rename_i e;cases h with
   |osl h=>exact .osl (a.own _ _ Fe h)
 .exact Xa a h
theorem b84(a:Keeps' [k] w w H H' μ μ')(b:∀v,μ k=some v->D w H' μ' t v){s:SV}{v:Value}(h:D w H μ s v):D w H' μ' (s.fz1 k t) v:=by
 unfold SV.fz1;split
 .cases h with
  |agg c hl d=>
   refine .agg c Eb (λi s v hs e=> ?_);simp only[In]at hs;obtain⟨f,g,rfl⟩:=hs;exact b1b a b (d i f v g e)
 .exact b1b a b h
theorem b7p(a:Keeps' [k] w w H H' μ μ')(b:∀v,μ k=some v->D w H' μ' t v){s:SV}{v:Value}(h:D w H μ s v):D w H' μ' (s.fz2 k t) v:=by
 unfold SV.fz2;split
 .cases h with
  |tup c hl d=>
   refine .tup c Eb (λi s v hs e=> ?_);simp only[In]at hs;obtain⟨f,g,rfl⟩:=hs;exact b84 a b (d i f v g e)
 .exact b84 a b h
theorem DI.fz(a:Keeps' [k] w w H H' μ μ')(l:∀v,μ k=some v->D w H' μ' t v){x:Value}{bl:Blk}(h:DI w H μ x bl):DI w H' μ' x (bl.fz k t):=by
 cases bl with
 |cells T cs=>
  obtain⟨b,y,rfl,z,hl,A,d⟩:=h;refine⟨b,y,rfl,z,Eb,A,λi s v hs B=> ?_⟩;simp only[In]at hs;obtain⟨C,E,rfl⟩:=hs;exact b1b a l (d i C v E B)
 |row T m n f c=>
  have:=DI.change a (λ_ _=>rfl) h;exact this
 |map K ag j val=>
  have:=DI.change a (λ_ _=>rfl) h;exact this
 |fam T Ts n bw F=>
  have:=DI.change a (λ_ _=>rfl) h;exact this
 |pmap K k' j BQ=>
  simp only[Blk.fz];split
  .exact Ja
  rename_i o;obtain⟨⟨G,I,J⟩,r,g,rfl,L,d⟩:=h;refine⟨⟨G,I,a.own _ _ (by simpa using o) J⟩,r,g,rfl,L,λq M=> ?_⟩;obtain⟨p,e,h⟩:=d q M;exact⟨p,e,b2u a (by simpa using o) h⟩
 |rowh T m n f c i u=>exact OM.to (λs=>s.fz0 k t) (λ_ _=>rfl) (λs v N h=>KD a h N) (λs v h=>b1b a l h) h
 |pool T m n d al ln ct=>
  have:=DI.change a (λ_ _=>rfl) h;exact this
 |dead=>exact Ja
end
theorem d1j{w:World}{H H':Nat->Prop}{μ μ':Mu}{x:Value}{T:TypeId}{sz n:Nat}{f:Nat->List SV}{c:Option Nat}(l:∀b,H' b->H b)(hx:∀b,CN x b->¬H' b)(h:DI w H μ x (.row T sz n f c)):D w H' μ' (.sl sz n f c) x:=by
 obtain⟨a,m,rfl,hn,hm,hc,hl,q⟩:=h;rcases q with rfl|⟨b,o,e,r,rfl,g,ho,h1,t⟩
 .exact Cn
 .have u:¬H' b:=hx b (Jl r);have k:∀i j,i<n->j<sz->o+i*sz+j<e.length:=λi j hi d=>by
   have:=LZ hi d;have:n*sz<=m*sz:=Km _ hn;omega
  refine .sl _ b o m (λi j=>e.getD (o+i*sz+j) undef) hn hm hc (λ_=>⟨rfl,u,PQ g,λi j hi d=> ?_⟩) hl (λi j s hi hs=> ?_)
  .have:=k i j hi d;rw[SI g,J6 this];simp only[It,J6 this];exact Cp
  .have d:j<sz:=G8;have:=k i j hi d;simp only[It,J6 this];exact GJ l (t i j s _ hi hs (J6 this)) (Je.1 (hl i hi).2 s (Jb hs))
def St.fz(E:Env)(k:Nat)(st:St):St:=match st.own[k]? with
 |some (.row _ a n f c)=>if E.ak k then st else⟨st.ρ.map λe=>{e with sv:=e.sv.fz2 k (.sl a n f c)},st.own.map λb=>b.fz k (.sl a n f c)⟩
 |_=>st
section
variable{E:Env}{B0:Nat}{X A:Nat->Prop}{w0:World}{nt:Nat}{st:St}{a:Act}{w:World}{μ:Mu}
theorem c8y(h:SD E B0 X A w0 nt st a w μ)(k:Nat):∃μ',SD E B0 X A w0 nt (st.fz E k) a w μ':=by
 unfold St.fz;split;rotate_left
 .exact⟨μ,h⟩
 rename_i T q n f c F;split
 .exact⟨μ,h⟩
 rename_i H;have r:∀b,held A (μ.drop k) b->held A μ b:=by
  intro b d;rcases d with d|⟨j,x,hj,hx⟩
  .exact .inl d
  .unfold Mu.drop at hj;split at hj
   .cases hj
   .exact .inr ⟨j,x,hj,hx⟩
 have u:Keeps' [k] w w (held A μ) (held A (μ.drop k)) μ (μ.drop k):=⟨Jf _,λ_ _ _=>rfl,λb _ d=>r b d,λj x hj hx=>by simp only[Jw]at hj;simp[Mu.drop,hj,hx],λj x hj d=>by simp only[Jw]at hj;subst hj;obtain⟨y,e,i⟩:=h.own.blk _ _ d;rw[F]at e;cases e;obtain⟨a,m,I,_⟩:=i;exact .inl ⟨_,_,_,I⟩⟩
 have z:∀v,μ k=some v->D w (held A (μ.drop k)) (μ.drop k) (.sl q n f c) v:=by
  intro v B;obtain⟨y,e,i⟩:=h.own.blk _ _ B;rw[F]at e;cases e;refine d1j r (λb d C=> ?_) i;rcases C with C|⟨j,x,hj,hx⟩
  .exact(h.own.rng _ _ b B d).2.1 C
  .unfold Mu.drop at hj;split at hj
   .cases hj
   .rename_i J;exact J (h.own.inj j k x v b hj B hx d)
 have o:∀{j x},μ.drop k j=some x->μ j=some x:=by
  intro j x hj;unfold Mu.drop at hj;split at hj
  .cases hj
  .exact hj
 refine⟨μ.drop k,⟨λj x hj=> ?_,λj K x L b hj M=>h.own.inj j K x L b (o hj) (o M),λj x b hj=>h.own.rng j x b (o hj),h.own.bnd⟩,h.fr,h.base,λg s l=>⟨(h.glo g s l).1,GJ r (h.glo g s l).2 (h.glo g s l).1⟩,h.dfr,h.size,λt e G=> ?_,λj hj=> ?_,λj x hx=> ?_⟩
 .obtain⟨y,e,i⟩:=h.own.blk j x (o hj);exact⟨y.fz k (.sl q n f c),by simp[e],i.fz u z⟩
 .rw[UJ (f:=λ(e:Entry)=>{e with sv:=e.sv.fz2 k (.sl q n f c)}) (λ_=>rfl),Jc]at G;obtain⟨N,O,rfl⟩:=G;have:=h.env t N O;unfold CZ at this⊢;simp only;split at this
  .exact b7p u z this
  .exact⟨λl=>b7p u z (this.1 l),this.2⟩
 .have:=h.fresh j En;simp[Mu.drop,this]
 .have:=h.anc j x hx;unfold Mu.drop;rw[J8 (λe=>H (by rw[<-e];exact Env.an_ak hx))];exact this
end
def f70(E:Env)(own:List Blk)(ρ:Operand->Option SV)(i:Op):Option (Prop×SV×List Blk):=
 match i with
 |.call c=>match c.callee,c.args.toList with
  |.value f,x::a=>match ρ f,ρ x with
   |some (.clo b []),some (.osl k)=>match E.X b,own[k]? with
    |some e,some (.row T d n g j)=>(a.mapM ρ).bind λh=>if h.any SV.hasOsl then none else(h.mapM (SV.roA own)).bind λl=>(e T d n g l).map λr=>(r.1,if r.2.2 then .osl k else .tup [],own.set k (.row T d n r.2.1 j))
    |_,_=>none
   |_,_=>none
  |_,_=>none
 |_=>none
def Ti(k j:Nat):Option Nat:=if j=k then none else some j
def d44(E:Env)(own:List Blk)(ρ:Operand->Option SV)(h:Op):Option (Prop×SV×List Blk):=
 match h with
 |.call c=>match c.callee,c.args.toList with
  |.value f,x::a=>match ρ f,ρ x with
   |some (.clo b []),some (.osl k)=>match E.X b,own[k]? with
    |some e,some (.row T d n g j)=>(a.mapM ρ).bind λl=>((l.map (SV.ren1 (Ti k))).mapM (SV.roA (own.map (Blk.ren (Ti k))))).bind λm=>
     (e T d n g m).map λr=>(r.1/\∀i,i<n->(r.2.1 i).all SV.flat0=true,if r.2.2 then .osl k else .tup [],own.set k (.row T d n r.2.1 j))
    |_,_=>none
   |_,_=>none
  |_,_=>none
 |_=>none
def f43(E:Env)(st:St)(o:Oper):Option (Prop×St):=match o.op with
 |.mapUpdate T m k x|.insert T m k x=>match CM E st.ρ none m with
  |some a=>match CM E st.ρ none k with
   |some sk=>match CM E st.ρ none x with
    |some b=>match o.dst with
     |none=>b5d E st T a sk b
     |some _=>none
    |none=>none
   |none=>none
  |none=>none
 |_=>none
def c4z(E:Env)(own:List Blk)(ρ:Operand->Option SV)(b:Op):Option (Prop×Nat×List Blk):=match b with
 |.slice T x none (some c) (some d)=>match ρ x,ρ c,ρ d with
  |some (.osl k),some (.int _ h),some (.int _ m)=>match own[k]? with
   |some (.row g a n f _)=>match OW E.P T with
    |some e=>if CU E.P e=some a/\E.ak k=false then some (0<=h/\h<=m/\m<=n,k,(own.map (Blk.kill [k])).set k (.row g a h.toNat f (some m.toNat)))else none
    |none=>none
   |_=>none
  |_,_,_=>none
 |_=>none
def d51(E:Env)(ρ:Operand->Option SV)(b:Op):Option (Prop×Blk):=match b with
 |.call {callee:=.builtin .append,args:=⟨[x,y]⟩,argTypes:=⟨[T,U]⟩}=>match OW E.P T,E.P.underlying U with
  |some e,some (.int _)=>match ρ x,ρ y with
   |some (.sl _ n _ (some c)),some (.int .i64 m)=>match E.P.info? e,Oq E.P e with
    |some a,some z=>if z.length=a.size/\0<a.size/\z.all SV.isCell=true/\z.all SV.pure=true then
     some ((n=0/\c=0)/\0<m/\m<=9223372036854775807/\m.toNat*a.bytes<=140737488355328,.row e a.size m.toNat (λ_=>z) none)else none
    |_,_=>none
   |_,_=>none
  |_,_=>none
 |_=>none
def Xt(E:Env)(nt:Nat)(a:Array Oper)(st:St)(o:Oper):Option (Prop×St):=
 match o.guard with
 |some _=>f0w E nt a st o
 |none=>match f70 E st.own (CM E st.ρ none) o.op with
  |some r=>if JL nt o.dst then some (r.1,⟨KI o.dst none r.2.1 st.ρ,r.2.2⟩)else none
  |none=>match d44 E st.own (CM E st.ρ none) o.op with
   |some r=>if JL nt o.dst then some (r.1,⟨KI o.dst none r.2.1 st.ρ,r.2.2⟩)else none
   |none=>match b8s E st.own (CM E st.ρ none) o.op with
    |some r=>if JL nt o.dst then some (r.1,⟨KI o.dst none r.2.1 (UB r.2.2.2 st.ρ),r.2.2.1⟩)else none
    |none=>match f43 E st o with
     |some r=>some r
     |none=>match c4z E st.own (CM E st.ρ none) o.op with
      |some r=>if JL nt o.dst then some (r.1,⟨KI o.dst none (.osl r.2.1) (UB [r.2.1] st.ρ),r.2.2⟩)else none
      |none=>match d51 E (CM E st.ρ none) o.op with
       |some r=>if JL nt o.dst then some (r.1,⟨KI o.dst none (.osl st.own.length) st.ρ,st.own++[r.2]⟩)else none
       |none=>f0w E nt a st o
def f4y:SV->List Nat
 |.osl k=>[k]
 |.agg a=>a.filterMap λs=>match s with|.osl k=>some k|_=>none
 |_=>[]
def Wh(E:Env)(o:Oper)(st:St):List Operand->St
 | []=>st
 |.tmp t::r=>Wh E o (match CK t st.ρ with
  |some e=>(f4y e.sv).foldl (λst k=>st.fz E k) st
  |none=>st) r
 |_::r=>Wh E o st r
def f0c(E:Env)(nt:Nat)(a:Array Oper)(st:St)(o:Oper):Option (Prop×St):=
 match o.dst with
 |none=>Xt E nt a st o
 |some d=>match E.fz d with
  |true=>Xt E nt a (Wh E o st o.op.operands.toList) o
  |false=>Xt E nt a st o
section
variable{E:Env}{B0:Nat}{X A:Nat->Prop}{w0:World}{nt:Nat}{st:St}{a:Act}{w:World}{μ:Mu}
theorem d2g(ks:List Nat):∀{st:St} {μ:Mu},SD E B0 X A w0 nt st a w μ->∃μ',SD E B0 X A w0 nt (ks.foldl (λst k=>st.fz E k) st) a w μ':=by
 induction ks with
 |nil=>intro st μ h;exact⟨μ,h⟩
 |cons k ks b=>intro st μ h;obtain⟨μ',c⟩:=c8y h k;exact b c
theorem c3b(o:Oper):∀(l:List Operand) {st:St} {μ:Mu},SD E B0 X A w0 nt st a w μ->∃μ',SD E B0 X A w0 nt (Wh E o st l) a w μ':=by
 intro l;induction l with
 |nil=>intro st μ h;exact⟨μ,h⟩
 |cons x l b=>
  intro st μ h;cases x with
  |tmp t=>
   simp only[Wh];split
   .obtain⟨μ',c⟩:=d2g (f4y _) h;exact b c
   .exact b h
  |const _=>exact b h
  |global _=>exact b h
  |func _=>exact b h
end
theorem DI.row_mono{w:World}{H H':Nat->Prop}{μ μ':Mu}{x:Value}{T:TypeId}{sz n:Nat}{f:Nat->List SV}{c:Option Nat}(g:∀b,H' b->H b)(h:DI w H μ x (.row T sz n f c)):DI w H' μ' x (.row T sz n f c):=by
 obtain⟨a,m,rfl,k,l,p,d,h⟩:=h;refine⟨a,m,rfl,k,l,p,d,?_⟩;rcases h with h|⟨b,o,q,r,rfl,t,u,y,z⟩
 .exact .inl h
 .exact .inr ⟨b,o,q,r,rfl,t,u,y,λi j s v e hs A=>GJ g (z i j s v e hs A) (Je.1 (d i e).2 s (Jb hs))⟩
theorem f1i{B0:Nat}{X A:Nat->Prop}{w:World}{μ:Mu}{own:List Blk}{xs a:List SV}{vs:List Value}(f:Own B0 X A w μ own)(c:DL w (held A μ) μ xs vs)(g:xs.mapM (SV.roA own)=some a)(j:xs.any SV.hasOsl=false){H':Nat->Prop}(k:∀b,H' b->held A μ b):DL w H' BN a vs:=by obtain⟨l1,l⟩:=OE g;refine⟨by rw[c.1,l1],λi s v hs m=> ?_⟩;have b6:i<xs.length:=Gc;obtain⟨y,d,e⟩:=l i _ (J6 b6);rw[hs]at d;cases d;refine Wd f (λ_ _ h=>h) k (c.2 i _ v (J6 b6) m) e (λh=> ?_);have:xs.any SV.hasOsl=true:=Hv;rw[j]at this;cases this
section
variable{E:Env}{B0:Nat}{X A:Nat->Prop}{w0:World}{nt:Nat}{st:St}{a:Act}{w:World}{μ:Mu}
theorem d5c(hC:GI E)(h:SD E B0 X A w0 nt st a w μ){o:Oper}{G:Prop}{s:SV}{own':List Blk}(m:f70 E st.own (CM E st.ρ none) o.op=some (G,s,own'))(hp:G):
 ∃f B,(execOp a.eval o).run E.P w=.ok (.enter f B) w/\own'.length=st.own.length/\Calls E.P f B w λe K=>∃v,e=.returned v/\D K (held A μ) μ s v/\After B0 X A w K μ μ own':=by
 unfold f70 at m;split at m;rotate_left
 .cases m
 rename_i c d9;split at m;rotate_left
 .cases m
 rename_i f x C hf jh;split at m;rotate_left
 .cases m
 rename_i H k I J;split at m;rotate_left
 .cases m
 rename_i e T sz n g cp hX hk;simp only[Jd]at m;obtain⟨xs,m5,m⟩:=m;split at m
 .cases m
 rename_i je;simp only[Jd,Ih]at m;obtain⟨ys,qq,⟨p,g',r⟩,hr,rfl,rfl,rfl⟩:=m;have F:=h.opds (g:=none) (λq b e=>E5);obtain⟨⟨fn,L,h2,h3⟩,hS⟩:=hC.2.1 H e hX;have V:=F _ _ I;generalize sb:a.eval f=vf at V;have O:=F _ _ J;generalize w3:a.eval x=v at O;cases V with
 |clo Q fe qd=>
 have P3:Q=[]:=Lj.1 fe;subst P3;have l:μ k=some v:=by cases O with|osl h=>exact h
 have S8:=Tk (a:=a) F m5;obtain⟨W,M,bb⟩:=h.own.blk k v l;rw[hk]at M;cases M;let Y:Nat->Prop:=λb=>held A μ b/\¬CN v b
 have N:∀b,held Y (GF v) b↔held A μ b:=by
  intro b;constructor
  .rintro(d|⟨j,y,u,hy⟩)
   .exact d.1
   .unfold GF at u;split at u
    .cases u;exact .inr ⟨k,v,l,hy⟩
    .cases u
  .intro d;by_cases e:CN v b
   .exact .inr ⟨0,v,rfl,e⟩
   .exact .inl ⟨d,e⟩
 have s4:∀b,held A μ b->b<w.heap.size:=λb d=>by
  rcases d with d|⟨k,x,hk,hx⟩
  .exact h.own.bnd b d
  .exact(h.own.rng k x b hk hx).1
 refine⟨H,(v::C.map a.eval).toArray,?_,Dz,?_⟩
 .have hm:c.args.map a.eval=(v::C.map a.eval).toArray:=by
   apply Array.ext';rw[Array.toList_map,jh];simp[w3]
  simp only[execOp,d9,resolve,hf,sb,Deferred.ofValue,hm,Ij,invoke,callFunc,run_program,L,h2,Ir,h3];simp
 .refine(hS Y w v T sz n g cp ys _ p g' r (λb d=>s4 b d.1) (λb d=>⟨(h.own.rng k v b l d).1,λR=>R.2 d⟩) (λq t S=>⟨(h.glo q t S).1,GJ (λb d=>(N b).1 d) (h.glo q t S).2 (h.glo q t S).1⟩) (bb.row_mono (λb d=>(N b).1 d))
   (f1i h.own S8 qq (by simpa using je) (λb d=>(N b).1 d)) hr hp).mono ?_
  rintro e K ⟨U,rfl,r1,r2,hB,z⟩;have Z:Keeps w K (held A μ) (held A μ) μ μ:=⟨z.size,λb d R=>z.block b d (λe=>R (.inr ⟨k,v,l,e⟩)),λ_ _ h=>h,λ_ _ h=>h⟩
  refine⟨U,rfl,?_,⟨λj y u=> ?_,h.own.inj,λj y b u d=> ?_,λb d=>K9 (h.own.bnd b d) z.size⟩,⟨z.os,z.tape,z.output,z.drawn,z.size,λi hi hx=> ?_⟩,Z⟩
  .cases r with
   |true=>rw[r1 rfl];rw[J7 rfl];cases O with|osl h=>exact .osl h
   |false=>rw[r2 rfl];exact .tup [] rfl (λi s v h=>E8)
  .by_cases e:j=k
   .subst e;rw[l]at u;cases u;exact⟨_,Hx,hB.row_mono (λb d=>(N b).2 d)⟩
   .obtain⟨W,M,d⟩:=h.own.blk j y u;refine⟨W,by rw[Jk (Ne.symm e)];exact M,d.keep Z (λb d=>z.block b (h.own.rng j y b u d).1 (λe2=>e (h.own.inj j k y v b u l d e2)))⟩
  .obtain⟨q1,q2⟩:=h.own.rng j y b u d;exact⟨K9 q1 z.size,q2⟩
  .refine z.block i (K9 hi h.base) (λe=> ?_);rcases(h.own.rng k v i l e).2.2 with L|L
   .omega
   .exact hx L
theorem DI.row_flat{w:World}{H H':Nat->Prop}{μ μ':Mu}{x:Value}{T:TypeId}{sz n:Nat}{f:Nat->List SV}{c:Option Nat}(e:∀i,i<n->(f i).all SV.flat0=true)(h:DI w H μ x (.row T sz n f c)):DI w H' μ' x (.row T sz n f c):=by
 obtain⟨a,m,rfl,g,k,l,p,h⟩:=h;refine⟨a,m,rfl,g,k,l,p,?_⟩;rcases h with h|⟨b,o,q,r,rfl,t,u,y,z⟩
 .exact .inl h
 .exact .inr ⟨b,o,q,r,rfl,t,u,y,λi j s v d hs A=>Wq (Je.1 (e i d) s (Jb hs)) (z i j s v d hs A)⟩
theorem d05(hC:GI E)(h:SD E B0 X A w0 nt st a w μ){o:Oper}{M:Prop}{s:SV}{own':List Blk}(C:d44 E st.own (CM E st.ρ none) o.op=some (M,s,own'))(Y:M):
 ∃f I,(execOp a.eval o).run E.P w=.ok (.enter f I) w/\own'.length=st.own.length/\Calls E.P f I w λe R=>∃v,e=.returned v/\D R (held A μ) μ s v/\After B0 X A w R μ μ own':=by
 unfold d44 at C;split at C;rotate_left
 .cases C
 rename_i c d9;split at C;rotate_left
 .cases C
 rename_i f x F hf jh;split at C;rotate_left
 .cases C
 rename_i N k O Q;split at C;rotate_left
 .cases C
 rename_i e T sz n g cp hX hk;simp only[Jd,Ih]at C;obtain⟨xs,m5,ys,qq,⟨p,g',r⟩,hr,rfl,rfl,rfl⟩:=C;obtain⟨Y,J⟩:=Y;have K:=h.opds (g:=none) (λq b e=>E5);obtain⟨⟨fn,S,h2,h3⟩,hS⟩:=hC.2.1 N e hX;have fw:=K _ _ O;generalize sb:a.eval f=vf at fw;have Z:=K _ _ Q;generalize w3:a.eval x=v at Z;cases fw with
 |clo cvs fe qd=>
 have P3:cvs=[]:=Lj.1 fe;subst P3;have l:μ k=some v:=by cases Z with|osl h=>exact h
 have S8:=Tk (a:=a) K m5;obtain⟨U,V,bb⟩:=h.own.blk k v l;rw[hk]at V;cases V;let W:Nat->Prop:=λb=>A b\/CN v b
 let B:Mu:=μ.drop k
 have z:∀{j x},B j=some x->j≠k/\μ j=some x:=by
  intro j x m;simp only[B,Mu.drop]at m;split at m
  .cases m
  .rename_i b9;exact⟨b9,m⟩
 have T5:∀j i x,Ti k j=some i->μ j=some x->B i=some x:=by
  intro j i x m hx;unfold Ti at m;split at m
  .cases m
  .rename_i b9;cases m;simp[B,Mu.drop,b9,hx]
 have X9:∀b,held W B b↔held A μ b:=by
  intro b;constructor
  .rintro((d|d)|⟨j,y,m,H⟩)
   .exact .inl d
   .exact .inr ⟨k,v,l,d⟩
   .exact .inr ⟨j,y,(z m).2,H⟩
  .rintro(d|⟨j,y,m,H⟩)
   .exact .inl (.inl d)
   .by_cases e:j=k
    .subst e;rw[l]at m;cases m;exact .inl (.inr H)
    .exact .inr ⟨j,y,by simp[B,Mu.drop,e,m],H⟩
 have Z0:Own B0 X W w B (st.own.map (Blk.ren (Ti k))):=by
  refine⟨λj y m=> ?_,λj j' y y' b m bn=>h.own.inj j j' y y' b (z m).2 (z bn).2,λj y b m d=> ?_,λb d=> ?_⟩
  .obtain⟨U,L,d⟩:=h.own.blk j y (z m).2;exact⟨U.ren (Ti k),by simp[L],d.ren (λb d=>(X9 b).1 d) T5⟩
  .obtain⟨r1,r2,r3⟩:=h.own.rng j y b (z m).2 d;refine⟨r1,?_,r3⟩;rintro(hA|hv)
   .exact r2 hA
   .exact(z m).1 (h.own.inj j k y v b (z m).2 l d hv)
  .rcases d with d|d
   .exact h.own.bnd b d
   .exact(h.own.rng k v b l d).1
 have U0:∀b,held A (GF v) b↔W b:=by
  intro b;constructor
  .rintro(d|⟨j,y,m,H⟩)
   .exact .inl d
   .unfold GF at m;split at m
    .cases m;exact .inr H
    .cases m
  .rintro(d|d)
   .exact .inl d
   .exact .inr ⟨0,v,rfl,d⟩
 have bi:∀b,held A (GF v) b->held A μ b:=λb d=>by
  rcases(U0 b).1 d with d|d
  .exact .inl d
  .exact .inr ⟨k,v,l,d⟩
 have hDy:DL w (held A (GF v)) BN ys (F.map a.eval):=by
  obtain⟨l1,l2⟩:=OE qq;refine⟨by rw[S8.1,l1];simp,λi s u hs hu=> ?_⟩;have b6:i<(xs.map (SV.ren1 (Ti k))).length:=Gc;obtain⟨y,H,L⟩:=l2 i _ (J6 b6);rw[hs]at H;cases H;have fh:i<xs.length:=by simpa using b6
  have jv:=b1f (w:=w) (H':=held W B) (μ':=B) (λb d=>(X9 b).1 d) T5 (S8.2 i _ u (J6 fh) hu);simp only[Mg]at L;exact Wd Z0 (λ_ _ h=>h) (λb d=>(X9 b).2 (bi b d)) jv L (λ_ b d=>(U0 b).1 d)
 have s4:∀b,held A μ b->b<w.heap.size:=λb d=>by
  rcases d with d|⟨k,x,hk,hx⟩
  .exact h.own.bnd b d
  .exact(h.own.rng k x b hk hx).1
 refine⟨N,(v::F.map a.eval).toArray,?_,Dz,?_⟩
 .have hm:c.args.map a.eval=(v::F.map a.eval).toArray:=by
   apply Array.ext';rw[Array.toList_map,jh];simp[w3]
  simp only[execOp,d9,resolve,hf,sb,Deferred.ofValue,hm,Ij,invoke,callFunc,run_program,S,h2,Ir,h3];simp
 .refine(hS A w v T sz n g cp ys _ p g' r h.own.bnd (λb d=>⟨(h.own.rng k v b l d).1,(h.own.rng k v b l d).2.1⟩) (λq t hg=>⟨(h.glo q t hg).1,GJ bi (h.glo q t hg).2 (h.glo q t hg).1⟩) (bb.row_mono bi) hDy hr Y).mono ?_;rintro e R ⟨res,rfl,r1,r2,hB,G⟩;have c7:Keeps w R (held A μ) (held A μ) μ μ:=⟨G.size,λb d hh=>G.block b d (λe=>hh (.inr ⟨k,v,l,e⟩)),λ_ _ h=>h,λ_ _ h=>h⟩
  refine⟨res,rfl,?_,⟨λj y m=> ?_,h.own.inj,λj y b m d=> ?_,λb d=>K9 (h.own.bnd b d) G.size⟩,⟨G.os,G.tape,G.output,G.drawn,G.size,λi hi hx=> ?_⟩,c7⟩
  .cases r with
   |true=>rw[r1 rfl];rw[J7 rfl];cases Z with|osl h=>exact .osl h
   |false=>rw[r2 rfl];exact .tup [] rfl (λi s v h=>E8)
  .by_cases e:j=k
   .subst e;rw[l]at m;cases m;exact⟨_,Hx,hB.row_flat J⟩
   .obtain⟨U,V,d⟩:=h.own.blk j y m;refine⟨U,by rw[Jk (Ne.symm e)];exact V,d.keep c7 (λb d=>G.block b (h.own.rng j y b m d).1 (λL=>e (h.own.inj j k y v b m l d L)))⟩
  .obtain⟨q1,q2⟩:=h.own.rng j y b m d;exact⟨K9 q1 G.size,q2⟩
  .refine G.block i (K9 hi h.base) (λe=> ?_);rcases(h.own.rng k v i l e).2.2 with S|S
   .omega
   .exact hx S
theorem b39{P:Program}{w:World}{T U ty e:TypeId}{k:IntKind}{b:TypeInfo}{c:Value}(f:P.underlying T=some (.slice e))(g:P.underlying U=some (.int k))(hi:P.info? e=some b)(i:b.zero=some c){a:Option Addr}{m:Nat}(j:0<m)(ru:m<=9223372036854775807)(l:m*b.bytes<=140737488355328)(n:0<b.size):
 (Builtin.append_ #[T,U] ty #[.slice a 0 0,.int .i64 m]).run P w=.ok (.slice (some ⟨w.heap.size,0,none⟩) m (grownCap w m 0 e)) (w.drew.alloc (.cells (Builtin.zeroCells c.cells m++Builtin.zeroCells c.cells (grownCap w m 0 e-m)) e)):=by
 have o:IntKind.i64.wrap (m:Int)=m:=QX Fh;have q:m≠0:=Dx;have r:¬((m:Int)<0):=Dx;have s:¬(281474976710656<(m:Int)*(b.bytes:Int)):=by have:((m*b.bytes:Nat):Int)=(m:Int)*b.bytes:=Dz;omega
 have t:¬(9223372036854775807<(m:Int)):=Dx;have h48:=growslice_fits (need:=m) (old:=0) Dx l;have u:¬(281474976710656<Builtin.nextslicecap m 0*b.bytes):=Dx;have d:b.size≠0:=Dx;have v:(Builtin.firstCells b.size 0 (.slice a 0 0)).run P w.drew=.ok #[] w.drew:=by cases a<;>simp[Builtin.firstCells,loadCells,loadCellsFrom]
 simp[Builtin.append_,Ke f,Ke g,sizeOf,typeInfo,zeroValue,hi,i,asInt,asIntOf,o,r,s,t,u,q,Question.forced,v,newRow,grownCap];intro h;have:=Nat.mul_pos j n;omega
theorem b71(z:Array Value)(n i:Nat)(u:Value)(h:(Builtin.zeroCells z n).toList[i]?=some u):z.toList[i%z.size]?=some u:=by
 unfold Builtin.zeroCells at h;rw[Array.toList_map,Jz,Jc]at h;obtain⟨j,b,rfl⟩:=h;rw[Array.toList_range]at b;obtain⟨a,e⟩:=J9.1 b;simp only[List.length_range]at a;simp only[List.getElem_range]at e;subst e;have d:0<z.size:=by
  rcases Ks z.size with e|e
  .rw[e]at a;simp at a
  .exact e
 have c:=Nw i d;rw[La,Lr z (i%z.size) c,Md c]
theorem d0s{B0:Nat}{X A:Nat->Prop}{w:World}{μ:Mu}{own k:List Blk}{a:Act}{ρ:Operand->Option SV}(Z:Own B0 X A w μ k)(N:B0<=w.heap.size)(hk:μ own.length=none)(B:∀(x:Operand) (s:SV),ρ x=some s->D w (held A μ) μ s (a.eval x)){o:Oper}{C:Prop}{b:Blk}
 (d:d51 E ρ o.op=some (C,b)) (hp:C) (db:k[own.length]?=some b):
 ∃r I μ',(execOp a.eval o).run E.P w=.ok (.value r) I/\After B0 X A w I μ μ' k/\(∀j,j≠own.length->μ' j=μ j)/\D I (held A μ') μ' (.osl own.length) r:=by
 unfold d51 at d;split at d;rotate_left
 .cases d
 rename_i x y T U d9;split at d;rotate_left
 .cases d
 rename_i e ki hT hU;split at d;rotate_left
 .cases d
 rename_i sz n f c m hx hy;split at d;rotate_left
 .cases d
 rename_i t z O hz;split at d;rotate_left
 .cases d
 rename_i u;obtain⟨t5,ff,qt,J⟩:=u;simp only[Ii]at d;obtain⟨rfl,rfl⟩:=d;obtain⟨⟨rfl,rfl⟩,U1,ws,se⟩:=hp;have ht:=QK hT;obtain⟨inf',l,F,mq,rfl,Q⟩:=Rx (w:=w) (H:=held A μ) (μ:=μ) hz;rw[O]at F;cases F;have G:l.cells.size=t.size:=Fd;have R:∀v∈l.cells.toList,v.oneCell'=true:=SC Q qt;have S:=B _ _ hx;have V:=B _ _ hy;generalize w3:a.eval x=vx at S;generalize K:a.eval y=vy at V;cases V;obtain⟨L,rfl⟩:∃L,vx=.slice L 0 0:=by
  cases S with
  |sl a b o m g hm hx u b7 hl hd=>
   rcases u with u|u
   .cases u
   .cases u;exact⟨_,rfl⟩
 have M:((m.toNat:Nat):Int)=m:=Dx;have W:=b39 (P:=E.P) (w:=w) (T:=T) (U:=U) (ty:=o.type) (a:=L) (m:=m.toNat) ht hU O mq Dx Dx se ff;rw[M]at W;have gh:=grownCap_ge w m.toNat 0 e;have gm:=Nn w m.toNat 0 e F5;have p9:∀v∈(Builtin.zeroCells l.cells m.toNat++Builtin.zeroCells l.cells (grownCap w m.toNat 0 e-m.toNat)).toList,v.oneCell'=true:=λv q=>by
  rw[Array.toList_append,Jt]at q;rcases q with q|q
  .exact VJ R _ v q
  .exact VJ R _ v q
 have Y:(Builtin.zeroCells l.cells m.toNat).toList.length=m.toNat*t.size:=by simp[Nu,G]
 obtain⟨o1,o2⟩:=Ta (x:=.slice (some ⟨w.heap.size,0,none⟩) m.toNat (grownCap w m.toNat 0 e)) Z.drew N hk db (.cells (Builtin.zeroCells l.cells m.toNat++Builtin.zeroCells l.cells (grownCap w m.toNat 0 e-m.toNat)) e) (λb hb=>(Xz Dx).1 hb) (λμ' _ c7=>by
  refine⟨_,_,rfl,gh,gm,.inl rfl,λi _=>⟨by simpa using G,J⟩,.inr ⟨w.heap.size,0,(Builtin.zeroCells l.cells m.toNat++Builtin.zeroCells l.cells (grownCap w m.toNat 0 e-m.toNat)).toList,Dx,rfl,N5 w.drew _,?_,p9,λi j s v F hs q=> ?_⟩⟩
  .rw[Array.toList_append,K5,Y,Lh,Nu,G,<-M8,L7,show m.toNat+(grownCap w m.toNat 0 e-m.toNat)=grownCap w m.toNat 0 e from Dx];exact C0
  .have hj:j<t.size:=by
    have:=(J9.1 hs).1;rw[t5]at this;exact this
   have b6:=LZ F hj;rw[Array.toList_append,L7,Jg (by rw[Y];exact b6)]at q;have:=b71 _ _ _ _ q;rw[G,My,Nat.mul_add_mod,Nat.mod_eq_of_lt hj]at this;exact((Q.2 j s v hs this).keep Keeps.drew).keep c7)
 have bt:(execOp a.eval o).run E.P w=.ok (.value (.slice (some ⟨w.heap.size,0,none⟩) m.toNat (grownCap w m.toNat 0 e))) (w.drew.alloc (.cells (Builtin.zeroCells l.cells m.toNat++Builtin.zeroCells l.cells (grownCap w m.toNat 0 e-m.toNat)) e)):=by simp only[execOp,d9,resolve,Ij,invoke,builtin];rw[show (⟨[x,y]⟩:Array Operand).map a.eval= #[a.eval x,a.eval y]from Dz,w3,K,W];simp
 exact⟨_,_,_,bt,⟨o1,Fr.drew.trans (Fr.alloc _ N),o2.size,o2.block,o2.less,o2.own⟩,λj hj=>Em,.osl Ef⟩
theorem d01{B0:Nat}{X A:Nat->Prop}{w:World}{μ:Mu}{own:List Blk}{a:Act}{ρ:Operand->Option SV}(J:Own B0 X A w μ own)(hB:B0<=w.heap.size)(t:∀(x:Operand) (s:SV),ρ x=some s->D w (held A μ) μ s (a.eval x)){o:Oper}{y:Prop}{k:Nat}{own':List Blk}
 (d:c4z E own ρ o.op=some (y,k,own')) (hp:y):
 ∃r μ',(execOp a.eval o).run E.P w=.ok (.value r) w/\D w (held A μ') μ' (.osl k) r/\After' [k] B0 X A w w μ μ' own'/\own'.length=own.length/\(E.ak k=false/\k<own.length)/\∀j,j≠k->μ' j=μ j:=by
 unfold c4z at d;split at d;rotate_left
 .cases d
 rename_i T x C mx d9;split at d;rotate_left
 .cases d
 rename_i k' F h G m hx z hm;split at d;rotate_left
 .cases d
 rename_i e' sz n f c K;split at d;rotate_left
 .cases d
 rename_i e hT;split at d;rotate_left
 .cases d
 rename_i hc;obtain⟨L,pz⟩:=hc;simp only[Ii]at d;obtain⟨rfl,rfl,rfl⟩:=d;obtain⟨h0,h1,h2⟩:=hp;have M:=QK hT;have kx:E.P.elem T=e:=by simp[Program.elem,M]
 simp only[CU,Jc]at L;obtain⟨u,bu,rfl⟩:=L;have N:=t _ _ hx;have O:=t _ _ z;have Q:=t _ _ hm;generalize w3:a.eval x=v at N;generalize H:a.eval C=vh at O;generalize Z1:a.eval mx=vm at Q;cases O;cases Q;cases N with
 |osl R=>
  obtain⟨bl,B,bb⟩:=J.blk _ _ R;rw[K]at B;cases B;obtain⟨l,g,I,fm,jd,f8,S,U⟩:=bb;cases I;rename_i g l;have B:=Ln (P:=E.P) w G m g .slice3Acap Dx Dx;have I:=Ln (P:=E.P) w F h m.toNat .slice3B Dx Dx;have js:(Instr.sliceBounds true n g none (some (.int F h)) (some (.int G m))).run E.P w=.ok (0,h.toNat,m.toNat) w:=by simp[Instr.sliceBounds,B,I]
  refine⟨.slice l h.toNat m.toNat,μ.set k' (.slice l h.toNat m.toNat),?_,.osl Ef,b16 J hB R ⟨_,_,_,rfl⟩ ⟨_,_,_,rfl⟩ ?_ (Jf _) (λ_ _ _=>rfl) rfl rfl rfl (λc7=> ?_),Dz,⟨pz,(J9.1 K).1⟩,λj hj=>Em⟩
  .have hr:(Instr.sliceAt T (.slice l n g) none (some (.int F h)) (some (.int G m))).run E.P w=.ok (.slice l h.toNat m.toNat) w:=by
    have zp:l.map (·.add (0*u.size))=l:=by cases l<;>simp[Addr.add_zero']
    simp only[Instr.sliceAt,Ij,Ke M,Instr.slice,js,HN bu,zp,ite_self,Nat.sub_zero]
   simp[execOp,d9,w3,H,Z1,hr]
  .rcases U with h3|⟨b,o,V,W,rfl,z,ho,Y,Z⟩
   .left;rw[show m.toNat=0 from Dx];exact XB
   .by_cases q:m.toNat=0
    .left;rw[q];exact XB
    .right;left;exact(OI Dx).trans (OI W).symm
  .refine⟨l,m.toNat,rfl,Dx,Dx,.inr rfl,λi C=>S i Dx,?_⟩;rcases U with h3|⟨b,o,V,W,rfl,z,ho,Y,Z⟩
   .left;omega
   .by_cases q:m.toNat=0
    .left;exact q
    .right;have:m.toNat*u.size<=g*u.size:=Km _ Dx;exact⟨b,o,V,Dx,rfl,z,Dx,Y,λi j s v C hs hv=>KD c7 (Z i j s v Dx hs hv) (Je.1 (S i Dx).2 s (Jb hs))⟩
theorem b1y(N:EnvOK E)(I:GI E)(h:SD E B0 X A w0 nt st a w μ){J:Array Oper}{o:Oper}{t:Prop}{z:St}(c:Xt E nt J st o=some (t,z))(B:t)
 {K:Act->World->Prop} {Q:Exit->Act->World->Prop} (C:∀U n μ',SD E B0 X A w0 nt z U n μ'->K U n):
 if Region.wanted o (yielded J a.tmps)then o.wp E.P a w K Q else K (a.put o.dst undef) w:=by
 unfold Xt at c;split at c
 .exact b89 N I h c B C
 rename_i kw;have L:∀{p:Prop} {s:SV} {own':List Blk},p=t->JL nt o.dst=true->(⟨KI o.dst none s st.ρ,own'⟩:St)=z->(∃f u,(execOp a.eval o).run E.P w=.ok (.enter f u) w/\own'.length=st.own.length/\Calls E.P f u w λe n=>∃v,e=.returned v/\D n (held A μ) μ s v/\After B0 X A w n μ μ own')->o.wp E.P a w K Q:=by rintro p s own' rfl y rfl ⟨f,u,F,O,W⟩;unfold Oper.wp;rw[F];refine W.mono ?_;rintro e n ⟨v,rfl,M,i⟩;exact C _ n μ (h.put i.own i.fr (Ml i.keeps h.glo) (h.env.keep i.keeps) (λk R=>h.fresh k (by rw[<-O];exact R)) h.anc y M)
 split at c
 .rename_i r d;obtain⟨p,s,own'⟩:=r;split at c;rotate_left
  .cases c
  rename_i y;simp only[Ii]at c;rw[J7 Ey];exact L c.1 y c.2 (d5c I h d (by rw[show p=t from c.1];exact B))
 .split at c
  .rename_i r d;obtain⟨p,s,own'⟩:=r;split at c;rotate_left
   .cases c
   rename_i y;simp only[Ii]at c;rw[J7 Ey];exact L c.1 y c.2 (d05 I h d (by rw[show p=t from c.1];exact B))
  .split at c
   .rename_i r d;obtain⟨p,s,own',kills⟩:=r;split at c;rotate_left
    .cases c
    rename_i y;simp only[Ii]at c;obtain⟨rfl,rfl⟩:=c;rw[J7 Ey];exact d0r I h (by rw[<-b8d];exact d) B y C
   .split at c
    .rename_i r d;cases c;rw[J7 Ey];have l:=h.opds (g:=none) (λq b e=>E5);unfold f43 at d;split at d;rotate_left 2
     .cases d
     all_goals
      rename_i T m k x Y;split at d;rotate_left
      .cases d
      rename_i sm Z;split at d;rotate_left
      .cases d
      rename_i sk gc;split at d;rotate_left
      .cases d
      rename_i sx pt;split at d;rotate_left
      .cases d
      rename_i ny;obtain⟨n,μ',G,S⟩:=b6z N h (l _ _ Z) (l _ _ gc) (l _ _ pt) d;have F:(execOp a.eval o).run E.P w=.ok .skip n:=by simp[execOp,Y,G]
      unfold Oper.wp;rw[F];show K (a.put o.dst undef) n;rw[ny];exact C _ n μ' S
    .split at c
     .rename_i r d;obtain⟨p,k,own'⟩:=r;split at c;rotate_left
      .cases c
      rename_i y;simp only[Ii]at c;obtain⟨rfl,rfl⟩:=c;rw[J7 Ey];have l:=h.opds (g:=none) (λq b e=>E5);obtain⟨r,μ',F,M,i,O,V,H⟩:=d01 h.own h.base l d B;unfold Oper.wp;rw[F];show K (a.put o.dst r) w;refine C _ w μ' ?_;refine h.put i.own i.fr (b1p i.keeps h.glo) (h.env.change i.keeps) (λj hj=> ?_) (λj x hx=>i.keeps.own _ _ (λe=> ?_) (h.anc j x hx)) y M
      .rw[O]at hj;rw[H j Dx];exact C6
      .simp only[Jw]at e;subst e;rw[Env.an_ak hx]at V;cases V.1
     .split at c
      .rename_i r d;obtain⟨p,b⟩:=r;split at c;rotate_left
       .cases c
       rename_i y;simp only[Ii]at c;obtain⟨rfl,rfl⟩:=c;rw[J7 Ey];have l:=h.opds (g:=none) (λq b e=>E5);obtain⟨r,n,μ',F,i,H,M⟩:=d0s (h.own.more (own':=st.own++[b]) Vy) h.base (h.fresh _ (Jf _)) l d B Dz;unfold Oper.wp;rw[F];show K (a.put o.dst r) n;refine C _ n μ' ?_;refine h.put i.own i.fr (Ml i.keeps h.glo) (h.env.keep i.keeps) (λk R=> ?_) (λj x hx=>i.keeps.own _ _ (h.anc j x hx)) y M;simp only[Iv]at R;rw[H k Dx];exact h.fresh k Dx
      .exact b89 N I h c B C
theorem b0v(f:EnvOK E)(g:GI E)(h:SD E B0 X A w0 nt st a w μ){c:Array Oper}{o:Oper}{d:Prop}{e:St}(b:f0c E nt c st o=some (d,e))(i:d)
 {K:Act->World->Prop} {Q:Exit->Act->World->Prop} (j:∀k l μ',SD E B0 X A w0 nt e k l μ'->K k l):
 if Region.wanted o (yielded c a.tmps)then o.wp E.P a w K Q else K (a.put o.dst undef) w:=by
 unfold f0c at b;split at b
 .exact b1y f g h b i j
 .split at b
  .obtain⟨μ',m⟩:=c3b o o.op.operands.toList h;exact b1y f g m b i j
  .exact b1y f g h b i j
end
theorem Uu{b:List (List Value)}{i a j:Nat}{us:List Value}{u:Value}(h:(b.set i [])[a]?=some us)(c:us[j]?=some u):a≠i/\b[a]?=some us:=by
 by_cases e:i=a
 .subst e;by_cases hl:i<b.length
  .rw[Ki hl]at h;cases h;simp at c
  .rw[Li Eb]at h;cases h
 .rw[Jk e]at h;exact⟨Ne.symm e,h⟩
structure SlH where
 a:Option Addr
 n:Nat
 m:Nat
def SlH.val(s:SlH):Value:=.slice s.a s.n s.m
def QL(p:SlH->Prop):Prop:=∀v,p v
theorem QL.mk{p:SlH->Prop}(h:∀v,p v):QL p:=h
theorem QL.out{p:SlH->Prop}(h:QL p):∀v,p v:=h
attribute [irreducible] QL
theorem So{ps:List Value}{e:List (List Value)}{b:Nat}:CN (BL ps e) b↔∃(i j:Nat) (us:List Value) (u:Value),e[i]?=some us/\us[j]?=some u/\FC u=some b:=by
 rw[Nz];constructor
 .rintro⟨us,u,a,c,d⟩;obtain⟨i,f⟩:=L3.1 a;obtain⟨j,g⟩:=L3.1 c;exact⟨i,j,us,u,f,g,d⟩
 .rintro⟨i,j,us,u,a,c,d⟩;exact⟨us,u,Jb a,Jb c,d⟩
def YX(p a:Nat)(ρ:List Entry):Bool:=match CK a ρ with
 |some ⟨_,none,.fp true q _ _⟩=>decide (q=p)
 |_=>false
def d3d(T:TypeId)(sz t:Nat)(st:St):Option St:=match CK t st.ρ with
 |some ⟨_,none,.own _ a⟩=>some ⟨⟨t,none,.fp true st.own.length 0 a⟩::st.ρ,st.own++[.pool T sz 0 (λ_=>undef) (λ_=>false) (λ_=>0) (λ_ _=>[])]⟩
 |_=>none
def SV.cv0(r:Nat)(v:Value)(s:SV):SV:=match s with
 |.osl j=>if j=r then .con v else .osl j
 |s=>s.uf0 r 0
def SV.cv1(r:Nat)(v:Value):SV->SV
 |.agg a=>.agg (a.map (SV.cv0 r v))
 |s=>s.cv0 r v
def SV.cv2(r:Nat)(v:Value):SV->SV
 |.tup a=>.tup (a.map (SV.cv1 r v))
 |s=>s.cv1 r v
def Blk.cv(r:Nat)(v:Value):Blk->Blk
 |.cells T a=>.cells T (a.map (SV.cv0 r v))
 |.rowh T d n f c i u=>.rowh T d n f c i (u.map (SV.cv0 r v))
 |b=>b.uf r 0
def b4a(E:Env)(t p c:Nat)(st:St):Option (Value->St):=match CK t st.ρ with
 |some ⟨_,none,.osl r⟩=>match st.own[r]?,st.own[p]? with
  |some (.row T b m g _),some (.pool d a k f h i j)=>if T=d/\b=a/\r≠p/\E.ak r=false/\E.ak p=false/\YX p c st.ρ=true then
   some λv=>⟨st.ρ.map λe=>{e with sv:=e.sv.cv2 r v},((st.own.map (Blk.cv r v)).set p (.pool T b (k+1) (λx=>if x=k then v else f x) (λx=>decide (x=k)||h x) (λx=>if x=k then m else i x) (λx=>if x=k then g else j x))).set r .dead⟩
   else none
  |_,_=>none
 |_=>none
def b5y(E:Env)(k j p t l:Nat)(st:St):Option (Prop×St):=match CK t st.ρ,st.own[k]?,st.own[p]? with
 |some ⟨_,none,.int _ i⟩,some (.row T o n f c),some (.pool b a m d e g h)=>if k≠p/\E.ak p=false/\YX p l st.ρ=true then
  some (i.toNat<n/\i.toNat<m/\e i.toNat=true/\(f i.toNat).getD j .any=.con (d i.toNat),
   ⟨st.ρ,(st.own.set k (.rowh T o n f c i.toNat ((f i.toNat).set j (.osl st.own.length)))).set p (.pool b a m d (λx=> !decide (x=i.toNat)&&e x) g h)++[.row b a (g i.toNat) (h i.toNat) none]⟩)
  else none
 |_,_,_=>none
def b5e(E:Env)(k j p d:Nat)(st:St):Option (Prop×St):=match st.own[k]?,st.own[p]? with
 |some (.row T g n f c),some (.pool _ a m h b i l)=>if k≠p/\E.ak p=false/\YX p d st.ρ=true then
  some (∀q,q<n->q<m->b q=true->(f q)[j]?=some (.con (h q)),
   ⟨st.ρ.map λe=>{e with sv:=e.sv.uf2 p 0},((st.own.map (Blk.uf p 0)).set k (.row T g n (λq=>if q<m/\b q=true then(f q).set j (.sl a (i q) (l q) none)else f q) c)).set p .dead⟩)
  else none
 |_,_=>none
section
variable{E:Env}{B0:Nat}{X A:Nat->Prop}{w0:World}{nt:Nat}{st:St}{a:Act}{w:World}{μ:Mu}
theorem c15(h:SD E B0 X A w0 nt st a w μ){T:TypeId}{sz t:Nat}{m:St}(n:d3d T sz t st=some m):∃μ',SD E B0 X A w0 nt m a w μ':=by
 unfold d3d at n;split at n;rotate_left
 .cases n
 rename_i G k B H;simp only[K0]at n;subst n;have I:=MJ H;simp only at I;subst I;have z:=h.env _ _ H;unfold CZ at z;simp only at z;obtain⟨b,Z2,O⟩:∃b,μ k=some (.pointer (some ⟨b,0,none⟩))/\a.tmps.getD G undef=.pointer (some ⟨b,B,none⟩):=by
  generalize a.tmps.getD G undef=vv at z;cases z with
  |own l=>exact⟨_,l,rfl⟩
 let f:List Value:=[.pointer (some ⟨b,0,none⟩)]
 have P:=h.fresh st.own.length (Jf _);have d:∀{j x},μ j=some x->μ.set st.own.length (BL f []) j=some x:=λ{j x} c=>by
  unfold Mu.set;split
  .rename_i e;rw[e,P]at c;cases c
  .exact c
 have o:∀{j x},μ.set st.own.length (BL f []) j=some x->(j=st.own.length/\x=BL f [])\/(j≠st.own.length/\μ j=some x):=by
  intro j x c;unfold Mu.set at c;split at c
  .exact .inl ⟨‹_›,(Kf c).symm⟩
  .exact .inr ⟨‹_›,c⟩
 have nohas:∀b,¬CN (BL f []) b:=λb r=>by obtain⟨Q,u,C,_⟩:=Nz.1 r;simp at C
 have J:∀b,held A (μ.set st.own.length (BL f [])) b->held A μ b:=by
  rintro b (r|⟨j,x,c,hx⟩)
  .exact .inl r
  .rcases o c with⟨_,rfl⟩|⟨_,y⟩
   .exact C7
   .exact .inr ⟨j,x,y,hx⟩
 have K:∀s v,D w (held A μ) μ s v->D w (held A (μ.set st.own.length (BL f []))) (μ.set st.own.length (BL f [])) s v:=λs v h=>h.shift J (λj x c _=>d c) (λj f F c=>⟨f,F,d c,λ_ _ h=>h⟩);have R:=EQ.shift K h.env;refine⟨_,⟨λj x c=> ?_,λj L x S b c y hx M=> ?_,λj x b c hx=> ?_,h.own.bnd⟩,h.fr,h.base,λg s N=>⟨(h.glo g s N).1,K _ _ (h.glo g s N).2⟩,h.dfr,h.size,λq e l=> ?_,λj c=> ?_,λj x hx=>d (h.anc j x hx)⟩
 .rcases o c with⟨rfl,rfl⟩|⟨b9,y⟩
  .exact⟨.pool T sz 0 (λ_=>undef) (λ_=>false) (λ_=>0) (λ_ _=>[]),by simp only[Jm (Jf _),Kw];rfl,f,[],rfl,rfl,λi j i' L Q us' u u' b C=>by simp at C,λi U=>absurd U (Jv _)⟩
  .obtain⟨V,e,r⟩:=h.own.blk j x y;have W:j<st.own.length:=(J9.1 e).1;exact⟨V,by simp only[Jg W];exact e,r.shift J (λj x c _=>d c) (λj f F c=>⟨f,F,d c,λ_ _ h=>h⟩)⟩
 .rcases o c with⟨rfl,rfl⟩|⟨_,g1⟩<;>rcases o y with⟨rfl,rfl⟩|⟨_,Y⟩
  .rfl
  .exact C7
  .exact absurd M (nohas b)
  .exact h.own.inj j L x S b g1 Y hx M
 .rcases o c with⟨rfl,rfl⟩|⟨_,g1⟩
  .exact C7
  .exact h.own.rng j x b g1 hx
 .simp only[CK]at l;split at l
  .cases l;unfold CZ;simp only;refine .fp ?_;rw[J7 rfl];exact⟨f,[],b,Ef,rfl,O⟩
  .exact R q e l
 .simp only[Iv]at c;unfold Mu.set;rw[J8 Dx];exact C6
theorem c3k(h:SD E B0 X A w0 nt st a w μ){p j:Nat}(c:YX p j st.ρ=true):∃e f,μ p=some (BL e f):=by
 unfold YX at c;split at c
 .rename_i k q i o l;simp only[Jh]at c;subst c;have d:=h.env _ _ l;unfold CZ at d;simp only at d;generalize a.tmps.getD k undef=vv at d;cases d with
  |fp g=>
   rw[J7 rfl]at g;obtain⟨e,f,b,m,_⟩:=g;exact⟨e,f,m⟩
 .cases c
end
section
variable{w:World}{H H':Nat->Prop}{μ μ':Mu}{r:Nat}{v0:Value}
theorem b4i(a:Drop r 0 H H' μ μ')(b:∀x,μ r=some x->x=v0){s:SV}{v:Value}(h:D w H μ s v):D w H' μ' (s.cv0 r v0) v:=by
 unfold SV.cv0;split
 .rename_i j;split
  .rename_i e;subst e;cases h with
   |osl h=>rw[<-b _ h];exact .con
  .rename_i e;exact XL a h (by simp[SV.ment0,EH];omega)
 .exact XD a h
theorem c5x(a:Drop r 0 H H' μ μ')(b:∀x,μ r=some x->x=v0){s:SV}{v:Value}(h:D w H μ s v):D w H' μ' (s.cv1 r v0) v:=by
 unfold SV.cv1;split
 .cases h with
  |agg c hl d=>
   refine .agg c Eb (λi s v hs e=> ?_);simp only[In]at hs;obtain⟨f,g,rfl⟩:=hs;exact b4i a b (d i f v g e)
 .exact b4i a b h
theorem c7g(a:Drop r 0 H H' μ μ')(b:∀x,μ r=some x->x=v0){s:SV}{v:Value}(h:D w H μ s v):D w H' μ' (s.cv2 r v0) v:=by
 unfold SV.cv2;split
 .cases h with
  |tup c hl d=>
   refine .tup c Eb (λi s v hs e=> ?_);simp only[In]at hs;obtain⟨f,g,rfl⟩:=hs;exact c5x a b (d i f v g e)
 .exact c5x a b h
theorem DI.cv(a:Drop r 0 H H' μ μ')(c:∀x,μ r=some x->x=v0){x:Value}{bl:Blk}(h:DI w H μ x bl):DI w H' μ' x (bl.cv r v0):=by
 unfold Blk.cv;split
 .obtain⟨b,d,rfl,e,hl,f,g⟩:=h;refine⟨b,d,rfl,e,Eb,f,λi s v hs j=> ?_⟩;simp only[In]at hs;obtain⟨k,l,rfl⟩:=hs;exact b4i a c (g i k v l j)
 .exact OM.to (SV.cv0 r v0) (λ_ _=>rfl) (λs v m h=>HJ a.less h m) (λs v h=>b4i a c h) h
 .exact h.drop a
theorem EQ.cv(a:Drop r 0 H H' μ μ')(b:∀x,μ r=some x->x=v0){tmps:Array Value}{ρ:List Entry}(h:EQ w H μ tmps ρ):EQ w H' μ' tmps (ρ.map λe=>{e with sv:=e.sv.cv2 r v0}):=by
 intro t e c;rw[UJ (f:=λ(e:Entry)=>{e with sv:=e.sv.cv2 r v0}) (λ_=>rfl),Jc]at c;obtain⟨d,g,rfl⟩:=c;have:=h t d g;unfold CZ at this⊢;simp only;split at this
 .exact c7g a b this
 .exact⟨λi=>c7g a b (this.1 i),this.2⟩
end
section
variable{E:Env}{B0:Nat}{X A:Nat->Prop}{w0:World}{nt:Nat}{st:St}{a:Act}{w:World}{μ:Mu}
theorem c90{w:World}{H H':Nat->Prop}{μ μ':Mu}{x:Value}{T:TypeId}{sz n:Nat}{f:Nat->List SV}{c:Option Nat}(d:∀b,H' b->H b)(h:JC w H μ x T sz n f c):JC w H' μ' x T sz n f none:=by obtain⟨a,m,e,g,i,_,j,k⟩:=JC.shift (H':=H') (μ':=μ') (λs v l hs=>HJ d hs l) h;exact⟨a,m,e,g,i,.inl rfl,j,k⟩
theorem b1w(h:SD E B0 X A w0 nt st a w μ){t p wt:Nat}{F:Value->St}(G:b4a E t p wt st=some F):∃(v:SlH) (μ':Mu),SD E B0 X A w0 nt (F v.val) a w μ':=by
 unfold b4a at G;split at G;rotate_left
 .cases G
 rename_i t' r fy;split at G;rotate_left
 .cases G
 rename_i T V m g W T' sz' k hd al ln ct Y hp;split at G;rotate_left
 .cases G
 rename_i hc;obtain⟨rfl,rfl,Z,U4,gy,rb⟩:=hc;obtain⟨o,d,B⟩:=c3k h rb;simp only[K0]at G;subst G;have hrlt:r<st.own.length:=(J9.1 Y).1;have rc:p<st.own.length:=(J9.1 hp).1;have I:∃u,μ r=some u:=by
  have N:=h.env t _ fy;unfold CZ at N;simp only at N;generalize a.tmps.getD t' undef=vv at N;cases N with
  |osl hq=>exact⟨_,hq⟩
 obtain⟨v,C⟩:=I;obtain⟨sv,Z4⟩:∃sv:SlH,v=sv.val:=by obtain⟨O,e,J⟩:=h.own.blk _ _ C;rw[Y]at e;cases e;obtain⟨b,c,e,_⟩:=J;exact⟨⟨b,_,c⟩,e⟩
 refine⟨sv,?_⟩;rw[<-Z4];have hP0:PoolOK w (held A μ) T V k hd al ln ct d:=by obtain⟨O,e,J⟩:=h.own.blk _ _ B;rw[hp]at e;cases e;obtain⟨ps1,qs1,f,J⟩:=J;obtain⟨rfl,rfl⟩:=Ot f;exact J
 let μ':Mu:=λj=>if j=p then some (BL o (d++[[v]]))else if j=r then none else μ j
 have hv:∀x,μ r=some x->x=v:=λx hx=>by rw[C]at hx;exact(Kf hx).symm
 have Z5:∀z,μ p=some z->z=BL o d/\PoolOK w (held A μ) T V k hd al ln ct d:=λz hz=>by rw[B]at hz;exact⟨(Kf hz).symm,hP0⟩
 have bh:∀{j x},μ' j=some x->(j=p/\∃u,μ r=some u/\μ p=some (BL o d)/\x=BL o (d++[[u]]))\/(j≠p/\j≠r/\μ j=some x):=by
  intro j x hj;by_cases f:j=p
  .subst f;simp only[μ',Kp,K0]at hj;exact .inl ⟨rfl,v,C,B,hj.symm⟩
  .by_cases l:j=r
   .subst l;simp[μ',f]at hj
   .exact .inr ⟨f,l,by simpa[μ',f,l]using hj⟩
 have q:∀{j x b},μ' j=some x->CN x b->(j=p/\∃z,μ p=some z/\CN z b)\/(j=p/\∃z,μ r=some z/\CN z b)\/(j≠p/\j≠r/\μ j=some x):=by
  intro j x b hj hx;rcases bh hj with⟨rfl,u,g1,n,rfl⟩|h3
  .obtain⟨i,jj,K,u',f,l,e3⟩:=So.1 hx;by_cases y:i<d.length
   .rw[Jg y]at f;exact .inl ⟨rfl,_,n,So.2 ⟨i,jj,K,u',f,l,e3⟩⟩
   .rw[Jm Dx]at f;match bv:i-d.length,f with
    |0,f=>
     simp at f;subst f;match jj,l with
     |0,l=>simp at l;subst l;exact .inr (.inl ⟨rfl,_,g1,.inl e3⟩)
     |z+1,l=>simp at l
    |z+1,f=>simp at f
  .exact .inr (.inr h3)
 have P:∀b,held A μ' b->held A μ b:=by
  rintro b (hb|⟨j,x,hj,hx⟩)
  .exact .inl hb
  .rcases q hj hx with⟨_,z,g1,n⟩|⟨_,z,g1,n⟩|⟨_,_,g1⟩
   .exact .inr ⟨p,z,g1,n⟩
   .exact .inr ⟨r,z,g1,n⟩
   .exact .inr ⟨j,x,g1,hx⟩
 have b7:∀u,μ r=some u->DI w (held A μ) μ u (.row T V m g W):=λu hu=>by obtain⟨O,e,J⟩:=h.own.blk _ _ hu;rw[Y]at e;cases e;exact J
 have dn:Drop r 0 (held A μ) (held A μ') μ μ':=by
  refine⟨P,λj x hj hx S1=> ?_,λj ps qs hj hx=> ?_⟩
  .have f:j≠r:=λe=>Gd;have l:j≠p:=λe=>by subst e;exact S1 _ _ (Z5 _ hx).1
   simp[μ',f,l,hx]
  .have f:j≠r:=λe=>Gd;by_cases l:j=p
   .subst l;obtain⟨H,Q⟩:=Ot (Z5 _ hx).1;exact⟨o,d++[[v]],by simp[μ'],λ_ _ h=>by rw[<-H];exact h⟩
   .exact⟨ps,qs,by simp[μ',f,l,hx],λ_ _ h=>h⟩
 refine⟨μ',⟨λj x hj=> ?_,λj j' x x' b hj bn hx R=> ?_,λj x b hj hx=> ?_,h.own.bnd⟩,h.fr,h.base,λg s hg=>⟨(h.glo g s hg).1,HJ P (h.glo g s hg).2 (h.glo g s hg).1⟩,h.dfr,h.size,h.env.cv dn hv,λj hj=> ?_,λj x hx=> ?_⟩
 .rcases bh hj with⟨rfl,u,g1,n,rfl⟩|⟨f,l,g1⟩
  .obtain⟨_,L⟩:=Z5 _ n;obtain rfl:v=u:=(hv _ g1).symm;refine⟨_,by rw[Jk Z,Ki (by simpa using rc)],?_⟩;refine⟨o,d++[[v]],rfl,by simp[L.ql],λi1 j1 i2 j2 us1 us2 u1 u2 b k1 k2 k3 k4 k5 k6=> ?_,λi y=> ?_⟩
   .have M:∀{i:Nat} {K:List Value},(d++[[v]])[i]?=some K->(d[i]?=some K)\/(i=d.length/\K=[v]):=by
     intro i K y;by_cases S:i<d.length
     .rw[Jg S]at y;exact .inl y
     .rw[Jm Dx]at y;match bv:i-d.length,y with
      |0,y=>simp at y;exact .inr ⟨Dx,y.symm⟩
      |z+1,y=>simp at y
    have one:∀{j:Nat} {u:Value},[v][j]?=some u->u=v:=by
     intro j u hj;match j,hj with
     |0,hj=>simpa using hj.symm
     |z+1,hj=>simp at hj
    rcases M k1 with H|⟨H,rfl⟩<;>rcases M k4 with q4|⟨q4,rfl⟩
    .exact L.nd i1 j1 i2 j2 us1 us2 u1 u2 b H k2 k3 q4 k5 k6
    .have:=one k5;subst this;exact absurd (h.own.inj j r _ _ b n g1 (So.2 ⟨_,_,_,_,H,k2,k3⟩) (.inl k6)) (Ne.symm Z)
    .have:=one k2;subst this;exact absurd (h.own.inj j r _ _ b n g1 (So.2 ⟨_,_,_,_,q4,k5,k6⟩) (.inl k3)) (Ne.symm Z)
    .omega
   .by_cases U:i=k
    .subst U;refine .inr ⟨Dz,by rw[<-L.ql];simp,?_⟩;simp only[Kp];exact c90 P (b7 _ g1)
    .have P4:=L.keep (ps:=o) (H':=held A μ') ⟨Jf _,λ_ _ _=>rfl,λb _=>P b⟩ (λ_ _=>rfl);have S:i<d.length:=by rw[L.ql];omega
     rcases P4.mem i Dx with⟨H,Q⟩|⟨H,Q,q3⟩
     .exact .inl ⟨by simp[U,H],by rw[Jg S];exact Q⟩
     .refine .inr ⟨by simp[H],by rw[Jg S,J8 U];exact Q,?_⟩;simp only[J8 U];exact q3
  .obtain⟨O,e,hb⟩:=h.own.blk j x g1;exact⟨O.cv r v,by rw[Jk (Ne.symm l),Jk (Ne.symm f),Jz,e];rfl,hb.cv dn hv⟩
 .rcases q hj hx with⟨f,z,g1,n⟩|⟨f,z,g1,n⟩|⟨f,e1',g1⟩<;>rcases q bn R with⟨l,z',k1,k2⟩|⟨l,z',k1,k2⟩|⟨l,e2',k1⟩
  .omega
  .omega
  .exact absurd (h.own.inj j' p x' z b k1 g1 R n) l
  .omega
  .omega
  .exact absurd (h.own.inj j' r x' z b k1 g1 R n) e2'
  .exact absurd (h.own.inj j p x z' b g1 k1 hx k2) f
  .exact absurd (h.own.inj j r x z' b g1 k1 hx k2) e1'
  .exact h.own.inj j j' x x' b g1 k1 hx R
 .rcases q hj hx with⟨_,z,g1,n⟩|⟨_,z,g1,n⟩|⟨_,_,g1⟩
  .exact h.own.rng p z b g1 n
  .exact h.own.rng r z b g1 n
  .exact h.own.rng j x b g1 hx
 .simp only[Kq,K8]at hj;have f:j≠p:=Dx;have l:j≠r:=Dx;simp[μ',f,l,h.fresh j hj]
 .have f:j≠p:=λe=>H2;have l:j≠r:=λe=>by subst e;rw[Env.an_ak hx]at U4;cases U4
  simp[μ',f,l,h.anc j x hx]
theorem b6w(h:SD E B0 X A w0 nt st a w μ){k j p t wt:Nat}{V:Prop}{W:St}(N:b5y E k j p t wt st=some (V,W))(dg:V):∃μ',SD E B0 X A w0 nt W a w μ':=by
 unfold b5y at N;split at N;rotate_left
 .cases N
 rename_i t' ki i T sz n f c T' O m G al ln ct fy hk hp;split at N;rotate_left
 .cases N
 rename_i hc;obtain⟨c7,gy,rb⟩:=hc;obtain⟨B,F,l⟩:=c3k h rb;simp only[Ii]at N;obtain⟨rfl,rfl⟩:=N;obtain⟨bg,tf,Z6,H⟩:=dg;generalize i.toNat=i at*;have m9:k<st.own.length:=(J9.1 hk).1;have rc:p<st.own.length:=(J9.1 hp).1;let L:=st.own.length
 have Z7:μ L=none:=h.fresh _ (Jf _);have dj:∃s,(f i)[j]?=some s/\s=.con (G i):=by
  cases hs:(f i)[j]? with
  |none=>rw[J5,hs]at H;cases H
  |some s=>
   rw[J5,hs,Kx]at H;exact⟨_,rfl,H⟩
 obtain⟨s0,bz,rfl⟩:=dj;have jt:j<(f i).length:=(J9.1 bz).1;have S:PoolOK w (held A μ) T' O m G al ln ct F:=by obtain⟨bl,e,bb⟩:=h.own.blk _ _ l;rw[hp]at e;cases e;obtain⟨ps1,qs1,y,bb⟩:=bb;obtain⟨rfl,rfl⟩:=Ot y;exact bb
 have bm:i<F.length:=by rw[S.ql];exact tf
 have P5:F[i]?=some [G i]/\JC w (held A μ) (λ_=>none) (G i) T' O (ln i) (ct i) none:=by
  rcases S.mem i tf with⟨g1,_⟩|⟨_,g2,r⟩
  .rw[Z6]at g1;cases g1
  .exact⟨g2,r⟩
 let μ':Mu:=λq=>if q=p then some (BL B (F.set i []))else if q=L then some (G i)else μ q
 have hpL:¬L=p:=Dx;have m1:μ' p=some (BL B (F.set i [])):=by simp[μ']
 have m2:μ' L=some (G i):=by simp[μ',hpL]
 have Y:∀q,q≠p->q≠L->μ' q=μ q:=λq h1 h2=>by simp[μ',h1,h2]
 have bh:∀{q x},μ' q=some x->(q=p/\x=BL B (F.set i []))\/(q=L/\x=G i)\/(q≠p/\q≠L/\μ q=some x):=by
  intro q x d;by_cases y:q=p
  .subst y;rw[m1]at d;exact .inl ⟨rfl,(Kf d).symm⟩
  .by_cases C:q=L
   .subst C;rw[m2]at d;exact .inr (.inl ⟨rfl,(Kf d).symm⟩)
   .rw[Y q y C]at d;exact .inr (.inr ⟨y,C,d⟩)
 have j8:∃a n m,G i=.slice a n m:=by obtain⟨a,m,e,_⟩:=P5.2;exact⟨_,_,_,e⟩
 have z:∀{q x b},μ' q=some x->CN x b->(∃(J U:Nat) (K:List Value) (u:Value),F[J]?=some K/\K[U]?=some u/\FC u=some b/\((q=p/\J≠i)\/(q=L/\J=i)))\/(q≠p/\q≠L/\μ q=some x):=by
  intro q x b d hx;rcases bh d with⟨rfl,rfl⟩|⟨rfl,rfl⟩|h3
  .obtain⟨J,U,K,u,g1,g2,r⟩:=So.1 hx;obtain⟨y,C⟩:=Uu g1 g2;exact .inl ⟨J,U,K,u,C,g2,r,.inl ⟨rfl,y⟩⟩
  .obtain⟨a,n,m,e⟩:=j8;rw[e]at hx;refine .inl ⟨i,0,_,G i,P5.1,rfl,?_,.inr ⟨rfl,rfl⟩⟩;rw[e];exact Se.1 hx
  .exact .inr h3
 have pa:∀{J U K u b},F[J]?=some K->K[U]?=some u->FC u=some b->CN (BL B F) b:=λg1 g2 r=>So.2 ⟨_,_,_,_,g1,g2,r⟩;have bc:∀b,held A μ' b->held A μ b:=by
  rintro b (hb|⟨q,x,d,hx⟩)
  .exact .inl hb
  .rcases z d hx with⟨J,U,K,u,g1,g2,r,_⟩|⟨_,_,g1⟩
   .exact .inr ⟨p,_,l,pa g1 g2 r⟩
   .exact .inr ⟨q,x,g1,hx⟩
 have Z:∀q x,μ q=some x->(∀ps F,x≠BL ps F)->μ' q=some x:=by
  intro q x d hx;have y:q≠p:=λe=>by subst e;rw[l]at d;exact hx _ _ (Kf d).symm
  have C:q≠L:=λe=>by subst e;rw[Z7]at d;cases d
  rw[Y q y C];exact d
 have hf:∀q P qs2,μ q=some (BL P qs2)->∃ps' qs',μ' q=some (BL ps' qs')/\∀(i:Nat) (p:Value),P[i]?=some p->ps'[i]?=some p:=by
  intro q P qs2 d;by_cases e:q=p
  .subst e;rw[l]at d;obtain⟨rfl,rfl⟩:=Ot (Kf d);exact⟨_,_,m1,λ_ _ h=>h⟩
  .have C:q≠L:=λe=>by subst e;rw[Z7]at d;cases d
   exact⟨_,_,(Y q e C).trans d,λ_ _ h=>h⟩
 have hD:∀s v,D w (held A μ) μ s v->D w (held A μ') μ' s v:=λs v h=>h.shift bc Z hf;refine⟨μ',⟨λq x d=> ?_,λq q' x x' b d dq hx d8=> ?_,λq x b d hx=> ?_,h.own.bnd⟩,h.fr,h.base,λg s hg=>⟨(h.glo g s hg).1,hD _ _ (h.glo g s hg).2⟩,h.dfr,h.size,h.env.shift hD,λq d=> ?_,λq x hx=> ?_⟩
 .rcases bh d with⟨rfl,rfl⟩|⟨rfl,rfl⟩|⟨y,C,g1⟩
  .refine⟨_,by rw[Jg (by simpa using rc),Ki (by simpa using rc)],?_⟩;refine⟨B,_,rfl,by simp[S.ql],λQ j1 i2 M I R u1 u2 b k1 k2 k3 k4 k5 k6=> ?_,λQ f7=> ?_⟩
   .exact S.nd Q j1 i2 M I R u1 u2 b (Uu k1 k2).2 k2 k3 (Uu k4 k5).2 k5 k6
   .have P4:=S.keep (ps:=B) (H':=held A μ') ⟨Jf _,λ_ _ _=>rfl,λb _=>bc b⟩ (λ_ _=>rfl);by_cases e:i=Q
    .subst e;exact .inl ⟨Dz,H3⟩
    .rcases P4.mem Q f7 with⟨g1,g2⟩|⟨g1,g2,r⟩
     .exact .inl ⟨by simp[g1],H4⟩
     .exact .inr ⟨by simp[g1,Ne.symm e],H4,r⟩
  .refine⟨.row T' O (ln i) (ct i) none,by rw[Jm (by simp[L])];simp[L],?_⟩;exact c90 bc P5.2
  .obtain⟨bl,e,hb⟩:=h.own.blk q x g1;have w4:q<st.own.length:=(J9.1 e).1;by_cases ek:q=k
   .subst ek;rw[hk]at e;cases e;refine⟨.rowh T sz n f c i ((f i).set j (.osl L)),by rw[Jg (by simpa using w4),Jk (Ne.symm y),Ki w4],?_⟩;obtain⟨aa,mm,rfl,hn,hm,f8,hl,be⟩:=hb;rcases be with rfl|⟨b,o,vs,cm,rfl,hh,ho,h1,fg⟩
    .omega
    refine⟨b,o,mm,vs,rfl,hn,hm,f8,bg,by simpa using(hl i bg).1,λq2 kq _=>hl q2 kq,hh,ho,h1,λq2 M s v kq _ hs H=>hD _ _ (fg q2 M s v kq hs H),λM s v hs H=> ?_⟩;by_cases ej:j=M
    .subst ej;rw[Ki jt]at hs;cases hs;have:=fg i j _ v bg bz H;cases this;obtain⟨a1,n1,m1',e4⟩:=j8;rw[e4]at m2;rw[e4];exact .osl m2
    .rw[Jk ej]at hs;exact hD _ _ (fg i M s v bg hs H)
   .exact⟨bl,by rw[Jg (by simpa using w4),Jk (Ne.symm y),Jk (Ne.symm ek)];exact e,hb.shift bc Z hf⟩
 .rcases z d hx with⟨Q,j1,I,u1,g1,g2,r,g4⟩|⟨g1,g2,r⟩<;>rcases z dq d8 with⟨i2,M,R,u2,k1,k2,k3,k4⟩|⟨k1,k2,k3⟩
  .have:=S.nd Q j1 i2 M I R u1 u2 b g1 g2 r k1 k2 k3;omega
  .exact absurd (h.own.inj q' p x' _ b k3 l d8 (pa g1 g2 r)) k1
  .exact absurd (h.own.inj q p x _ b r l hx (pa k1 k2 k3)) g1
  .exact h.own.inj q q' x x' b r k3 hx d8
 .rcases z d hx with⟨Q,j1,I,u1,g1,g2,r,_⟩|⟨_,_,r⟩
  .exact h.own.rng p _ b l (pa g1 g2 r)
  .exact h.own.rng q x b r hx
 .simp only[Iv,Kq]at d;rw[Y q Dx (by simp only[L];omega)];exact h.fresh q Dx
 .have y:q≠p:=λe=>H2;have:=h.anc q x hx;have C:q≠L:=λe=>by subst e;rw[Z7]at this;cases this
  rw[Y q y C];exact this
theorem b59(h:SD E B0 X A w0 nt st a w μ){k j p wt:Nat}{C:Prop}{F:St}(t:b5e E k j p wt st=some (C,F))(dg:C):∃μ',SD E B0 X A w0 nt F a w μ':=by
 unfold b5e at t;split at t;rotate_left
 .cases t
 rename_i T sz n f c T' G m L S U V W Y;split at t;rotate_left
 .cases t
 rename_i B;obtain⟨c7,gy,rb⟩:=B;simp only[Ii]at t;obtain⟨rfl,rfl⟩:=t;obtain⟨M,I,l⟩:=c3k h rb;have hP:PoolOK w (held A μ) T' G m L S U V I:=by obtain⟨Z,e,N⟩:=h.own.blk _ _ l;rw[Y]at e;cases e;obtain⟨ps1,qs1,O,N⟩:=N;obtain⟨rfl,rfl⟩:=Ot O;exact N
 have m9:k<st.own.length:=(J9.1 W).1;have rc:p<st.own.length:=(J9.1 Y).1;have P:∀q,q≠p->μ.drop p q=μ q:=λq e=>by simp[Mu.drop,e]
 have u:∀{q x},μ.drop p q=some x->q≠p/\μ q=some x:=by
  intro q x d;simp only[Mu.drop]at d;split at d
  .cases d
  .exact⟨‹_›,d⟩
 have J:∀b,held A (μ.drop p) b->held A μ b:=by
  rintro b (y|⟨q,x,d,hx⟩)
  .exact .inl y
  .exact .inr ⟨q,x,(u d).2,hx⟩
 have dn:Drop p 0 (held A μ) (held A (μ.drop p)) μ (μ.drop p):=by
  refine⟨J,λq x hj hx _=> ?_,λq ps I hj hx=> ?_⟩
  .have e:q≠p:=λe=>Gd;rw[P q e];exact hx
  .have e:q≠p:=λe=>Gd;exact⟨ps,I,by rw[P q e];exact hx,λ_ _ h=>h⟩
 have z:∀i,i<m->S i=true->D w (held A (μ.drop p)) (μ.drop p) (.sl G (U i) (V i) none) (L i):=by
  intro i r ha;rcases hP.mem i r with⟨g1,_⟩|⟨_,g2,g3⟩
  .rw[ha]at g1;cases g1
  .refine d1j J (λb y=> ?_) g3;have Z8:FC (L i)=some b:=by
    obtain⟨aa,mm,e,_⟩:=g3;rw[e]at y⊢;exact Se.1 y
   have cd:CN (BL M I) b:=So.2 ⟨i,0,_,_,g2,rfl,Z8⟩;rintro(hA|⟨q,x,d,hx⟩)
   .exact(h.own.rng p _ b l cd).2.1 hA
   .exact(u d).1 (h.own.inj q p x _ b (u d).2 l hx cd)
 refine⟨μ.drop p,⟨λq x d=> ?_,λq q' x x' b d dq hx d8=>h.own.inj q q' x x' b (u d).2 (u dq).2 hx d8,λq x b d hx=>h.own.rng q x b (u d).2 hx,h.own.bnd⟩,h.fr,h.base,λg s Q=>⟨(h.glo g s Q).1,HJ J (h.glo g s Q).2 (h.glo g s Q).1⟩,h.dfr,h.size,EQ.drop dn h.env,λq d=> ?_,λq x hx=> ?_⟩
 .obtain⟨P6,d⟩:=u d;obtain⟨Z,e,y⟩:=h.own.blk q x d;by_cases ek:q=k
  .subst ek;rw[W]at e;cases e;refine⟨_,by rw[Jk (Ne.symm P6),Ki (by simpa using m9)],?_⟩;obtain⟨aa,mm,rfl,hn,hm,f8,K,be⟩:=y;refine⟨aa,mm,rfl,hn,hm,f8,λi r=> ?_,?_⟩
   .dsimp only;split
    .refine⟨by rw[Kq];exact(K i r).1,Je.2 λs hs=> ?_⟩;rcases Ly hs with hs|rfl
     .exact Je.1 (K i r).2 s hs
     .rfl
    .exact K i r
   .rcases be with rfl|⟨b,o,vs,cm,rfl,hh,ho,h1,fg⟩
    .exact .inl rfl
    .refine .inr ⟨b,o,vs,cm,rfl,hh,ho,h1,λi R s v r hs hv=> ?_⟩;have H:∀s,(f i)[R]?=some s->D w (held A (μ.drop p)) (μ.drop p) s v:=λs hs=>HJ J (fg i R s v r hs hv) (Je.1 (K i r).2 s (Jb hs));dsimp only at hs;split at hs
     .rename_i B;by_cases ej:j=R
      .subst ej;have dj:=dg i r B.1 B.2;rw[Ki (J9.1 dj).1]at hs;cases hs;have:=fg i j _ v r dj hv;cases this;exact z i B.1 B.2
      .rw[Jk ej]at hs;exact H s hs
     .exact H s hs
  .exact⟨Z.uf p 0,by rw[Jk (Ne.symm P6),Jk (Ne.symm ek),Jz,e];rfl,y.drop dn⟩
 .simp only[Kq,K8]at d;have:=h.fresh q d;simp[Mu.drop,this]
 .have O:q≠p:=λe=>H2;rw[P q O];exact h.anc q x hx
end
def PW(n:Nat)(K:Nat->Prop):Prop:=MM n K
theorem d56(n:Nat)(K:Nat->Prop):PW n K=K n:=b6y n K
def SV.f0(s:SV)(K:SV->Prop):Prop:=match s with
 |.int k n=>K (.int k n)
 |.bool b=>K (.bool b)
 |.con v=>K (.con v)
 |.own k o=>PW k λk=>PW o λo=>K (.own k o)
 |.osl k=>PW k λk=>K (.osl k)
 |.oel k a i o=>PW k λk=>PW o λo=>K (.oel k a i o)
 |.sl a n f c=>K (.sl a n f c)
 |.rel a n f i o=>PW o λo=>K (.rel a n f i o)
 |.agg d=>K (.agg d)
 |.tup d=>K (.tup d)
 |.clo f d=>K (.clo f d)
 |.omp k=>PW k λk=>K (.omp k)
 |.mp T e h v=>K (.mp T e h v)
 |.fp g k i o=>PW k λk=>PW o λo=>K (.fp g k i o)
 |.ub p q=>K (.ub p q)
 |.any=>K .any
def fL(f:SV->(SV->Prop)->Prop):List SV->(List SV->Prop)->Prop
 | [],K=>K []
 |s::r,K=>f s λa=>fL f r λb=>K (a::b)
def SV.f1(s:SV)(K:SV->Prop):Prop:=match s with
 |.agg b=>fL SV.f0 b λa=>K (.agg a)
 |.clo f b=>fL SV.f0 b λa=>K (.clo f a)
 |s=>s.f0 K
def SV.f2(s:SV)(K:SV->Prop):Prop:=match s with
 |.tup b=>fL SV.f1 b λa=>K (.tup a)
 |s=>s.f1 K
def fG(g:Option (Nat×Bool))(K:Option (Nat×Bool)->Prop):Prop:=match g with
 |none=>K none
 |some (n,true)=>K (some (n,true))
 |some (n,false)=>K (some (n,false))
def fE:List Entry->(List Entry->Prop)->Prop
 | [],K=>K []
 |⟨n,g,s⟩::r,K=>fG g λa=>s.f2 λb=>fE r λc=>K (⟨n,a,b⟩::c)
def fB:List Blk->(List Blk->Prop)->Prop
 | [],K=>K []
 |.cells T e::r,K=>fL SV.f0 e λd=>fB r λa=>K (.cells T d::a)
 |.row T b n f c::r,K=>fB r λa=>K (.row T b n f c::a)
 |.map T g h v::r,K=>fB r λa=>K (.map T g h v::a)
 |.fam T j n l F::r,K=>fB r λa=>K (.fam T j n l F::a)
 |.pmap T k h v::r,K=>fB r λa=>K (.pmap T k h v::a)
 |.rowh T b n f c i u::r,K=>fL SV.f0 u λm=>fB r λa=>K (.rowh T b n f c i m::a)
 |.pool T b n o p q s::r,K=>fB r λa=>K (.pool T b n o p q s::a)
 |.dead::r,K=>fB r λa=>K (.dead::a)
def St.force(st:St)(K:St->Prop):Prop:=match st with
 |⟨c,own⟩=>fE c λb=>fB own λa=>K ⟨b,a⟩
theorem SV.f0_eq(s:SV)(K:SV->Prop):s.f0 K=K s:=by cases s<;>simp only[SV.f0,d56]
theorem Yf{f:SV->(SV->Prop)->Prop}(a:∀s K,f s K=K s):∀(l:List SV) (K:List SV->Prop),fL f l K=K l
 | [],_=>rfl
 |s::r,K=>by simp only[fL,a,Yf a r]
theorem SV.f1_eq(s:SV)(K:SV->Prop):s.f1 K=K s:=by cases s<;>simp only[SV.f1,SV.f0_eq,Yf SV.f0_eq]
theorem SV.f2_eq(s:SV)(K:SV->Prop):s.f2 K=K s:=by cases s<;>simp only[SV.f2,SV.f1_eq,Yf SV.f1_eq]
theorem d9g(g:Option (Nat×Bool))(K:Option (Nat×Bool)->Prop):fG g K=K g:=by
 match g with
 |none=>rfl
 |some (n,true)=>rfl
 |some (n,false)=>rfl
theorem f5r:∀(l:List Entry) (K:List Entry->Prop),fE l K=K l
 | [],_=>rfl
 |⟨n,g,s⟩::r,K=>by simp only[fE,d9g,SV.f2_eq,f5r r]
theorem Ux:∀(l:List Blk) (K:List Blk->Prop),fB l K=K l
 | [],_=>rfl
 |.cells T cs::r,K=>by simp only[fB,Yf SV.f0_eq,Ux r]
 |.row T a n f c::r,K=>Fi
 |.map T ag h v::r,K=>Fi
 |.fam T Ts n bw F::r,K=>Fi
 |.pmap T k h v::r,K=>Fi
 |.rowh T a n f c i u::r,K=>by simp only[fB,Yf SV.f0_eq,Ux r]
 |.pool T a n hd al ln ct::r,K=>Fi
 |.dead::r,K=>Fi
theorem St.force_eq(st:St)(K:St->Prop):st.force K=K st:=by cases st;simp only[St.force,f5r,Ux]
def fE1:List Entry->(List Entry->Prop)->Prop
 | [],K=>K []
 |⟨n,g,s⟩::r,K=>fG g λa=>s.f2 λb=>match r with
  | []=>K [⟨n,a,b⟩]
  |x::c=>K (⟨n,a,b⟩::x::c)
theorem fE1_eq(l:List Entry)(K:List Entry->Prop):fE1 l K=K l:=by
 match l with
 | []=>rfl
 |⟨n,g,s⟩::[]=>simp only[fE1,d9g,SV.f2_eq]
 |⟨n,g,s⟩::x::xs=>simp only[fE1,d9g,SV.f2_eq]
def fB1:List Blk->(List Blk->Prop)->Prop
 | [],K=>K []
 |b::r,K=>K (b::r)
theorem fB1_eq(l:List Blk)(K:List Blk->Prop):fB1 l K=K l:=by cases l<;>rfl
def cheap(o:Oper):Bool:=match o.op with
 |.store _ _ _|.alloc _|.box _ _|.buildSlice _ _ _|.makeSlice _ _ _|.makeMap _ _|.mapUpdate _ _ _ _|.insert _ _ _ _|.call _|.slice _ _ _ _ _=>false
 |_=>true
def St.forceO(o:Oper)(st:St)(K:St->Prop):Prop:=match cheap o with
 |true=>match st with
  |⟨c,own⟩=>fE1 c λb=>fB1 own λa=>K ⟨b,a⟩
 |false=>st.force K
theorem St.forceO_eq(o:Oper)(st:St)(K:St->Prop):st.forceO o K=K st:=by
 unfold St.forceO;split
 .cases st;simp only[fE1_eq,fB1_eq]
 .exact St.force_eq st K
def KM(p:Prop):Prop:=p
theorem KM.mk{p:Prop}(h:p):KM p:=h
theorem KM.out{p:Prop}(h:KM p):p:=h
attribute [irreducible] KM
def QQ(a b:Option Entry):Prop:=a=b
theorem QQ.mk{a b:Option Entry}(h:a=b):QQ a b:=h
theorem QQ.out{a b:Option Entry}(h:QQ a b):a=b:=h
attribute [irreducible] QQ
def ppOf(E:Env)(o:Oper):Option (Nat×Nat×Nat):=match o.dst with
 |some d=>match E.gr (2000+d)with
  |.poolPut t p a::_=>some (t,p,a)
  |_=>none
 |none=>none
def SK(E:Env)(o:Oper)(K:St->Prop)(st:St):Prop:=match ppOf E o with
 |none=>K st
 |some (t,p,a)=>match b4a E t p a st with
  |some F=>QL λv=>(F v.val).force K
  |none=>False
theorem b1q{E:Env}{e:Nat}{X A:Nat->Prop}{f:World}{g:Nat}{st:St}{a:Act}{w:World}{μ:Mu}{o:Oper}{K:St->Prop}(h:SD E e X A f g st a w μ)(c:SK E o K st):∃d b,SD E e X A f g d a w b/\K d:=by
 unfold SK at c;split at c
 .exact⟨st,μ,h,c⟩
 .split at c
  .rename_i F j;obtain⟨v,b,k⟩:=b1w h j;have i:=c.out v;rw[St.force_eq]at i;exact⟨F v.val,b,k,i⟩
  .exact c.elim
theorem d1y{E:Env}{o:Oper}{K b:St->Prop}{st:St}(c:∀st,K st->b st)(a:SK E o K st):SK E o b st:=by
 unfold SK at a⊢;split at a
 .exact c _ a
 .split at a
  .rename_i F he;refine QL.mk λv=> ?_;have d:=a.out v;rw[St.force_eq]at d⊢;exact c _ d
  .exact a.elim
def Rz(E:Env)(c:Nat)(a:Array Oper)(K:St->Prop)(o:Oper)(st:St):Prop:=match f0c E c a st o with
 |some (p,b)=>KM p/\b.forceO o K
 |none=>False
theorem d8i{E:Env}{c:Nat}{b:Array Oper}{o:Oper}{K d:St->Prop}(e:∀st,K st->d st)(st:St)(a:Rz E c b K o st):Rz E c b d o st:=by
 unfold Rz at a⊢;split at a
 .rw[St.forceO_eq]at a⊢;exact⟨a.1,e _ a.2⟩
 .exact a.elim
noncomputable def Oa(E:Env)(b:Nat)(a:Array Oper)(K:St->Prop)(l:List Oper):St->Prop:=
 List.rec (motive:=λ_=>St->Prop) K (λo _ k c=>SK E o (Rz E b a k o) c) l
theorem b4d{E:Env}{b:Nat}{a:Array Oper}{K:St->Prop}{st:St}:Oa E b a K [] st=K st:=rfl
theorem b2c{E:Env}{b:Nat}{a:Array Oper}{K:St->Prop}{o:Oper}{r:List Oper}{st:St}:Oa E b a K (o::r) st=SK E o (Rz E b a (Oa E b a K r) o) st:=rfl
def HQ:Option Nat->Option Nat->Prop
 |_,none=>True
 |c,some m=>c=some m
def SV.lf:SV->SV->Prop
 |_,.any=>True
 |.int k n,.int d m=>if k=d then n=m else False
 |.bool b,.bool c=>b=c
 |.ub p q,.ub y z=>(p->y)/\(q->z)
 |.con v,.con s=>v=s
 |.own k o,.own d e=>if k=d/\o=e then True else False
 |.osl k,.osl d=>if k=d then True else False
 |.oel k g i o,.oel d a t e=>k=d/\g=a/\i=t/\o=e
 |.sl g n f c,.sl a l r u=>n=l/\(if g=a then True else n=0)/\HQ c u/\∀i,i<n->f i=r i
 |.con (.slice none 0 0),.sl _ l _ u=>l=0/\HQ (some 0) u
 |.rel g n f i o,.rel a l r t e=>g=a/\n=l/\i=t/\o=e/\∀j,j<n->f j=r j
 |.clo f A,.clo r w=>f=r/\A=w
 |.omp k,.omp d=>if k=d then True else False
 |.mp T B h v,.mp C x E s=>(T=C/\B=x)/\(∀q,h q=E q)/\∀q,h q=true->v q=s q
 |_,_=>False
def Yn:List SV->List SV->Prop
 | [],[]=>True
 |s::r,t::q=>s.lf t/\Yn r q
 |_,_=>False
def Fl(xs a:List SV):Prop:=xs=a\/Yn xs a
theorem RQ{n:Nat}{f a:Nat->List SV}(h:∀i,i<n->f i=a i):∀i,i<n->Fl (f i) (a i):=λi b=>.inl (h i b)
def SV.le0:SV->SV->Prop
 |_,.any=>True
 |.int k n,.int a m=>if k=a then n=m else False
 |.bool b,.bool c=>b=c
 |.ub p q,.ub z A=>(p->z)/\(q->A)
 |.con v,.con u=>v=u
 |.own k o,.own a g=>if k=a/\o=g then True else False
 |.osl k,.osl a=>if k=a then True else False
 |.oel k l i o,.oel a d r g=>k=a/\l=d/\i=r/\o=g
 |.sl l n f c,.sl d s t w=>n=s/\(if l=d then True else n=0)/\HQ c w/\∀i,i<n->Fl (f i) (t i)
 |.con (.slice none 0 0),.sl _ s _ w=>s=0/\HQ (some 0) w
 |.rel l n f i o,.rel d s t r g=>l=d/\n=s/\i=r/\o=g/\∀j,j<n->f j=t j
 |.clo f B,.clo t x=>f=t/\B=x
 |.omp k,.omp a=>if k=a then True else False
 |.mp T C h v,.mp E y F u=>(T=E/\C=y)/\(∀q,h q=F q)/\∀q,h q=true->v q=u q
 |.fp G k i o,.fp e a r g=>(if k=a/\o=g then True else False)/\G=e/\(e=true->i=r)
 |.con (.pointer none),.fp e _ _ _=>e=false
 |_,_=>False
def BM:List SV->List SV->Prop
 | [],[]=>True
 |s::r,t::q=>s.le0 t/\BM r q
 |_,_=>False
def SV.le1:SV->SV->Prop
 |.agg b,.agg a=>BM b a
 |s,t=>s.le0 t
def le1L:List SV->List SV->Prop
 | [],[]=>True
 |s::r,t::q=>s.le1 t/\le1L r q
 |_,_=>False
def SV.le2:SV->SV->Prop
 |.tup b,.tup a=>le1L b a
 |s,t=>s.le1 t
section
variable{w:World}{H:Nat->Prop}{μ:Mu}
theorem Wr{c b:Option Nat}{m:Nat}(h:HQ c b)(a:c=none\/c=some m):b=none\/b=some m:=by
 cases b with
 |none=>exact .inl rfl
 |some k=>
  simp only[HQ]at h;subst h;rcases a with a|a
  .cases a
  .exact .inr a
theorem f0m{s t:SV}{v:Value}(h:D w H μ s v)(d:s.lf t):D w H μ t v:=by
 unfold SV.lf at d;split at d
 .exact .any
 .split at d
  .subst_vars;exact h
  .exact d.elim
 .subst d;exact h
 .cases h with
  |ub k h2=>exact .ub (λe=>d.1 (k e)) (λe=>d.2 (h2 e))
 .subst d;exact h
 .split at d
  .rename_i e;obtain⟨rfl,rfl⟩:=e;exact h
  .exact d.elim
 .split at d
  .subst_vars;exact h
  .exact d.elim
 .obtain⟨rfl,rfl,rfl,rfl⟩:=d;exact h
 .rename_i z n f c l n' f' c';obtain⟨rfl,x,hc,hf⟩:=d;cases h with
  |sl a b o m g hm hx f8 u hl hd=>
   by_cases y:n=0
   .subst y;exact Db
   .have e:z=l:=by
     split at x
     .assumption
     .exact absurd x y
    subst e;exact .sl a b o m g hm hx (Wr hc f8) u (λi hi=>Ge) (λi j s hi hs=>hd i j s hi Gf)
 .obtain⟨rfl,hc⟩:=d;cases h;exact Dc
 .obtain⟨rfl,rfl,rfl,rfl,hf⟩:=d;cases h with
  |rel b o g hi hb u hl hd=>exact .rel b o g hi hb u (λi hi=>Ge) (λi j s hi hs=>hd i j s hi Gf)
 .obtain⟨rfl,rfl⟩:=d;exact h
 .split at d
  .subst_vars;exact h
  .exact d.elim
 .obtain⟨⟨rfl,rfl⟩,k,h2⟩:=d;cases h with
  |mp r g hb hm hl hd=>
   have e:=Nh k;subst e;exact Dd
 .exact d.elim
theorem d15:∀{cs a:List SV},Yn cs a->cs.length=a.length/\∀(i:Nat) (t:SV),a[i]?=some t->∃s,cs[i]?=some s/\s.lf t
 | [],[],_=>⟨rfl,λi t h=>E8⟩
 |s::r,t::q,h=>by
  obtain⟨h1,b⟩:=d15 h.2;refine⟨Ep,λi c ht=> ?_⟩;match i with
  |0=>simp at ht;subst ht;exact⟨s,rfl,h.1⟩
  |i+1=>simpa using b i c Fc
 | [],_::_,h=>h.elim
 |_::_,[],h=>h.elim
theorem f8r{s t:SV}(h:s.lf t)(a:s.pure=true):t.pure=true:=by
 unfold SV.lf at h;split at h
 .rfl
 .rfl
 .rfl
 .rfl
 .rfl
 .cases a
 .cases a
 .cases a
 .rfl
 .rfl
 .rfl
 .obtain⟨_,rfl⟩:=h;exact a
 .cases a
 .rfl
 .exact h.elim
theorem Yq{cs a:List SV}(h:Fl cs a):cs.length=a.length/\(∀(i:Nat) (t:SV),a[i]?=some t->∃s,cs[i]?=some s/\∀{v:Value},D w H μ s v->D w H μ t v)/\(cs.all SV.pure=true->a.all SV.pure=true):=by
 rcases h with rfl|h
 .exact⟨rfl,λi t b=>⟨t,b,λh=>h⟩,λh=>h⟩
 .obtain⟨e,d⟩:=d15 h;refine⟨e,λi t b=> ?_,λf=> ?_⟩
  .obtain⟨s,hs,c⟩:=d i t b;exact⟨s,hs,λg=>f0m g c⟩
  .rw[Je];intro t b;obtain⟨i,j⟩:=L3.1 b;obtain⟨s,hs,c⟩:=d i t j;exact f8r c (Je.1 f s (Jb hs))
theorem b58{s t:SV}{v:Value}(h:D w H μ s v)(d:s.le0 t):D w H μ t v:=by
 unfold SV.le0 at d;split at d
 .exact .any
 .split at d
  .subst_vars;exact h
  .exact d.elim
 .subst d;exact h
 .cases h with
  |ub k h2=>exact .ub (λe=>d.1 (k e)) (λe=>d.2 (h2 e))
 .subst d;exact h
 .split at d
  .rename_i e;obtain⟨rfl,rfl⟩:=e;exact h
  .exact d.elim
 .split at d
  .subst_vars;exact h
  .exact d.elim
 .obtain⟨rfl,rfl,rfl,rfl⟩:=d;exact h
 .rename_i A n f c l n' f' c';obtain⟨rfl,x,hc,hf⟩:=d;cases h with
  |sl a b o m g hm hx f8 u hl hd=>
   by_cases y:n=0
   .subst y;exact Db
   .have e:A=l:=by
     split at x
     .assumption
     .exact absurd x y
    subst e;exact .sl a b o m g hm hx (Wr hc f8) u (λi hi=>by
     obtain⟨g1,_,B⟩:=Yq (w:=w) (H:=H) (μ:=μ) (hf i hi);exact⟨g1▸(hl i hi).1,B (hl i hi).2⟩) (λi j s hi hs=>by
     obtain⟨C,E,F⟩:=(Yq (w:=w) (H:=H) (μ:=μ) (hf i hi)).2.1 j s hs;exact F (hd i j C hi E))
 .obtain⟨rfl,hc⟩:=d;cases h;exact Dc
 .obtain⟨rfl,rfl,rfl,rfl,hf⟩:=d;cases h with
  |rel b o g hi hb u hl hd=>exact .rel b o g hi hb u (λi hi=>Ge) (λi j s hi hs=>hd i j s hi Gf)
 .obtain⟨rfl,rfl⟩:=d;exact h
 .split at d
  .subst_vars;exact h
  .exact d.elim
 .obtain⟨⟨rfl,rfl⟩,k,h2⟩:=d;cases h with
  |mp r g hb hm hl hd=>
   have e:=Nh k;subst e;exact Dd
 .obtain⟨z,rfl,hi⟩:=d;split at z;rotate_left
  .exact z.elim
  rename_i e;obtain⟨rfl,rfl⟩:=e;cases h with
  |fp h=>
   refine .fp ?_;split
   .rename_i e;rw[J7 e]at h;rw[<-hi e];exact h
   .rename_i e;rwa[J8 e]at h
 .subst d;cases h;exact .fp rfl
 .exact d.elim
theorem b99:∀{cs a:List SV},BM cs a->cs.length=a.length/\∀(i:Nat) (t:SV),a[i]?=some t->∃s,cs[i]?=some s/\s.le0 t
 | [],[],_=>⟨rfl,λi t h=>E8⟩
 |s::r,t::q,h=>by
  obtain⟨h1,b⟩:=b99 h.2;refine⟨Ep,λi c ht=> ?_⟩;match i with
  |0=>simp at ht;subst ht;exact⟨s,rfl,h.1⟩
  |i+1=>simpa using b i c Fc
 | [],_::_,h=>h.elim
 |_::_,[],h=>h.elim
theorem c26{s t:SV}{v:Value}(h:D w H μ s v)(a:s.le1 t):D w H μ t v:=by
 unfold SV.le1 at a;split at a
 .obtain⟨h1,b⟩:=b99 a;cases h with
  |agg c hl d=>
   refine .agg c Dx (λi t v e f=> ?_);obtain⟨s,hs,g⟩:=b i t e;exact b58 (d i s v hs f) g
 .exact b58 h a
theorem c6x:∀{cs a:List SV},le1L cs a->cs.length=a.length/\∀(i:Nat) (t:SV),a[i]?=some t->∃s,cs[i]?=some s/\s.le1 t
 | [],[],_=>⟨rfl,λi t h=>E8⟩
 |s::r,t::q,h=>by
  obtain⟨h1,b⟩:=c6x h.2;refine⟨Ep,λi c ht=> ?_⟩;match i with
  |0=>simp at ht;subst ht;exact⟨s,rfl,h.1⟩
  |i+1=>simpa using b i c Fc
 | [],_::_,h=>h.elim
 |_::_,[],h=>h.elim
theorem Qu{s t:SV}{v:Value}(h:D w H μ s v)(a:s.le2 t):D w H μ t v:=by
 unfold SV.le2 at a;split at a
 .obtain⟨h1,b⟩:=c6x a;cases h with
  |tup c hl d=>
   refine .tup c Dx (λi t v e f=> ?_);obtain⟨s,hs,g⟩:=b i t e;exact c26 (d i s v hs f) g
 .exact c26 h a
end
def SV.in0(n:Nat):SV->Bool
 |.own k _=>decide (k<n)
 |.osl k=>decide (k<n)
 |.oel k _ _ _=>decide (k<n)
 |.omp k=>decide (k<n)
 |.fp _ k _ _=>decide (k<n)
 |.clo _ a=>a.all λc=>match c with
  |.own k _=>decide (k<n)
  |.osl k=>decide (k<n)
  |.omp k=>decide (k<n)
  |.fp _ k _ _=>decide (k<n)
  |.oel _ _ _ _|.agg _|.tup _=>false
  |.clo _ a=>a.isEmpty
  |_=>true
 |.agg _|.tup _=>false
 |_=>true
def SV.in1(n:Nat):SV->Bool
 |.agg a=>a.all (SV.in0 n)
 |s=>s.in0 n
def SV.in2(n:Nat):SV->Bool
 |.tup a=>a.all (SV.in1 n)
 |s=>s.in1 n
def cut(n:Nat)(μ:Mu):Mu:=λk=>if k<n then μ k else none
section
variable{w:World}{H H':Nat->Prop}{μ:Mu}{n:Nat}
theorem b65(j:∀b,H' b->H b){s:SV}{v:Value}(h:D w H μ s v)(hi:s.in0 n=true):D w H' (cut n μ) s v:=by
 have c:∀{k x},k<n->μ k=some x->cut n μ k=some x:=λC hx=>by simp[cut,C,hx]
 cases h with
 |int=>exact .int
 |bool=>exact .bool
 |con=>exact .con
 |own h=>exact .own (c Fu h)
 |osl h=>exact .osl (c Fu h)
 |oel h=>exact .oel (c Fu h)
 |omp h=>exact .omp (c Fu h)
 |fp h=>exact D.fp_mk (λu y e=>⟨u,y,c Fu e,λ_ h=>h⟩) h
 |mp r g l q d f=>exact GJ j (.mp r g l q d f) rfl
 |sl a b o m g q hx hc t d f=>exact GJ j (.sl a b o m g q hx hc t d f) rfl
 |rel b o g z l t d f=>exact GJ j (.rel b o g z l t d f) rfl
 |agg=>simp[SV.in0]at hi
 |tup=>simp[SV.in0]at hi
 |clo E d f=>
  refine .clo E d (λi s v hs F=> ?_);have hc:=Je.1 hi s (Jb hs);have G:=f i s v hs F;cases G with
  |own h=>exact .own (c Et h)
  |osl h=>exact .osl (c Et h)
  |omp h=>exact .omp (c Et h)
  |fp h=>exact D.fp_mk (λu y e=>⟨u,y,c Et e,λ_ h=>h⟩) h
  |mp r g l q d f=>exact GJ j (.mp r g l q d f) rfl
  |oel h=>simp at hc
  |agg=>simp at hc
  |tup=>simp at hc
  |clo I J K=>exact GJ j (.clo I J K) Ht
  |int=>exact .int
  |bool=>exact .bool
  |con=>exact .con
  |ub A B=>exact .ub A B
  |any=>exact .any
  |sl a b o m g q hx L t d f=>exact GJ j (.sl a b o m g q hx L t d f) rfl
  |rel b o g z l t d f=>exact GJ j (.rel b o g z l t d f) rfl
 |ub A B=>exact .ub A B
 |any=>exact .any
theorem c18(a:∀b,H' b->H b){s:SV}{v:Value}(h:D w H μ s v)(hi:s.in1 n=true):D w H' (cut n μ) s v:=by
 unfold SV.in1 at hi;split at hi
 .cases h with
  |agg c d e=>exact .agg c d (λi s v hs f=>b65 a (e i s v hs f) (Je.1 hi s (Jb hs)))
 .exact b65 a h hi
theorem c29(a:∀b,H' b->H b){s:SV}{v:Value}(h:D w H μ s v)(hi:s.in2 n=true):D w H' (cut n μ) s v:=by
 unfold SV.in2 at hi;split at hi
 .cases h with
  |tup c d e=>exact .tup c d (λi s v hs f=>c18 a (e i s v hs f) (Je.1 hi s (Jb hs)))
 .exact c18 a h hi
end
def c5n:List (Nat×(Nat->List SV))->List (Nat×(Nat->List SV))->Prop
 | [],[]=>True
 |a::r,b::q=>a.1=b.1/\(∀i,i<a.1->a.2 i=b.2 i)/\c5n r q
 |_,_=>False
def d57(n:Nat):Option (Nat×Nat)->Bool
 |some (_,c)=>decide (c<n)
 |none=>true
theorem c51{n:Nat}{a:Option (Nat×Nat)}(h:d57 n a=true):∀i c,a=some (i,c)->c<n:=λi c e=>by subst e;simpa[d57]using h
def Mem.le(m m':Mem):Prop:=m.cs=m'.cs/\c5n m.rows m'.rows
def Blk.le(n:Nat):Blk->Blk->Prop
 |.cells T x,.cells a g=>(if T=a/\g.all (SV.in0 n)=true then True else False)/\BM x g
 |.row T j k f c,.row a d e y z=>(if T=a/\j=d then True else False)/\k=e/\HQ c z/\∀i,i<k->Fl (f i) (y i)
 |.map T A h v,.map a l m o=>(T=a/\A=l)/\(∀q,h q=m q)/\∀q,h q=true->v q=o q
 |.fam T B k C F,.fam a p e b E=>(if T=a/\B=p/\d57 n b=true then True else False)/\k=e/\C=b/\∀i,i<k->(F i).le (E i)
 |.pmap T k h v,.pmap a e m o=>(if T=a/\k=e/\k<n then True else False)/\(∀q,h q=m q)/\∀q,h q=true->v q=o q
 |.pool T j k G u w H,.pool a d e I r s t=>(if T=a/\j=d then True else False)/\k=e/\(∀i,i<k->u i=r i)/\∀i,i<k->u i=true->G i=I i/\w i=s i/\∀q,q<w i->H i q=t i q
 |_,.dead=>True
 |_,_=>False
def SH(n:Nat):List Blk->List Blk->Prop
 |_,[]=>True
 |b::r,a::c=>b.le n a/\SH n r c
 | [],_::_=>False
def f76(n:Nat)(ρ:List Entry):List Entry->Prop
 | []=>True
 |e::r=>(match e.guard,CK e.slot ρ with
  |none,some x=>match x.guard with
   |none=>(if e.sv.in2 n then True else False)/\x.sv.le2 e.sv
   |some _=>False
  |_,_=>False)/\f76 n ρ r
def Sx(st a:St):Prop:=SH a.own.length st.own a.own/\f76 a.own.length st.ρ a.ρ
section
variable{w:World}{H:Nat->Prop}{μ:Mu}
theorem b2q{n:Nat}:∀{l c:List Blk},SH n l c->∀(k:Nat) (a:Blk),c[k]?=some a->∃b,l[k]?=some b/\b.le n a
 |_,[],_=>λk b h=>E8
 |b::r,a::r',h=>λk x hx=>by
  match k with
  |0=>simp at hx;subst hx;exact⟨b,rfl,h.1⟩
  |k+1=>simpa using b2q h.2 k x (by simpa using hx)
 | [],_::_,h=>h.elim
theorem JC.le{μ:Mu}{x:Value}{T:TypeId}{sz n:Nat}{f d:Nat->List SV}{c:Option Nat}(h:JC w H μ x T sz n f c)(hf:∀i,i<n->f i=d i):JC w H μ x T sz n d c:=by
 obtain⟨a,m,rfl,e,g,k,hl,l⟩:=h;refine⟨a,m,rfl,e,g,k,λi hi=>Ge,?_⟩;rcases l with h|⟨b,o,q,r,rfl,t,u,y,z⟩
 .exact .inl h
 .exact .inr ⟨b,o,q,r,rfl,t,u,y,λi j s v hi hs A=>z i j s v hi Gf A⟩
theorem b7b:∀{l c:List (Nat×(Nat->List SV))},c5n l c->l.length=c.length/\∀(j:Nat) (b:Nat×(Nat->List SV)),c[j]?=some b->∃a,l[j]?=some a/\a.1=b.1/\∀i,i<a.1->a.2 i=b.2 i
 | [],[],_=>⟨rfl,λj b h=>E8⟩
 |a::r,b::q,h=>by
  obtain⟨d,e,f⟩:=h;obtain⟨g,k⟩:=b7b f;refine⟨by simp[g],λj x hx=> ?_⟩;match j with
  |0=>simp at hx;subst hx;exact⟨a,rfl,d,e⟩
  |j+1=>simpa using k j x (by simpa using hx)
 | [],_::_,h=>h.elim
 |_::_,[],h=>h.elim
theorem MemOK.le{T:TypeId}{b:List (TypeId×Nat)}{m m':Mem}{p:Value}{us:List Value}(h:MemOK w H T b m p us)(d:m.le m'):MemOK w H T b m' p us:=by obtain⟨c,e⟩:=d;obtain⟨f,g⟩:=b7b e;refine⟨by rw[<-c];exact h.cells,by rw[<-c];exact h.memc,h.len,by rw[<-f];exact h.rlen,λj t r u i k l=> ?_⟩;obtain⟨a,n,o,q⟩:=g j r k;have:=(h.rows j t a u i n l).le q;rwa[o]at this
theorem FamOK.le{T:TypeId}{d:List (TypeId×Nat)}{n:Nat}{e:Option Nat}{F f:Nat->Mem}{ps:List Value}{g:List (List Value)}(h:FamOK w H T d n e F ps g)(k:∀i,i<n->(F i).le (f i)):FamOK w H T d n e f ps g:=by
 refine⟨h.pl,h.ql,h.nd,λi j=> ?_⟩;obtain⟨b,l,m,o,a⟩:=h.mem i j;refine⟨b,l,m,o,?_⟩;rcases a with a|⟨a,c,rfl,p⟩
 .exact .inl a
 .exact .inr ⟨a,c,rfl,p.le (k i j)⟩
theorem Blk.le_sound{n:Nat}{H':Nat->Prop}(G:∀b,H' b->H b){x:Value}{bl I:Blk}(h:DI w H μ x bl)(A:bl.le n I):DI w H' (cut n μ) x I:=by
 unfold Blk.le at A;split at A
 .obtain⟨d,C⟩:=A;split at d;rotate_left
  .exact d.elim
  rename_i B;obtain⟨rfl,M⟩:=B;obtain⟨u,y⟩:=b99 C;obtain⟨b,N,rfl,J,t7,V,E⟩:=h;refine⟨b,N,rfl,J,Dx,V,λi s v hs K=> ?_⟩;obtain⟨t,W,X⟩:=y i s hs;exact b65 G (b58 (E i t v W K) X) (Je.1 M s (Jb hs))
 .rename_i T Y k f c T' sz' k' O c';obtain⟨d,rfl,Z,P⟩:=A;split at d;rotate_left
  .exact d.elim
  rename_i B;obtain⟨rfl,rfl⟩:=B;obtain⟨a,m,rfl,hn,L,f8,C,be⟩:=h;have Q:∀i,i<k->(O i).length=Y/\(O i).all SV.pure=true:=λi l=>by obtain⟨g1,_,g3⟩:=Yq (w:=w) (H:=H) (μ:=μ) (P i l);exact⟨g1▸(C i l).1,g3 (C i l).2⟩
  refine⟨a,m,rfl,hn,L,Wr Z f8,Q,?_⟩;rcases be with h|⟨b,o,N,cm,rfl,J,ho,u,E⟩
  .exact .inl h
  .refine .inr ⟨b,o,N,cm,rfl,J,ho,u,λi j s v l hs K=> ?_⟩;obtain⟨s0,bz,jv⟩:=(Yq (w:=w) (H:=H) (μ:=μ) (P i l)).2.1 j s hs;exact GJ G (jv (E i j s0 v l bz K)) (Je.1 (Q i l).2 s (Jb hs))
 .obtain⟨⟨rfl,rfl⟩,u,y⟩:=A;obtain⟨r,g,rfl,L,C,E⟩:=h;have e:=Nh u;subst e;exact⟨r,g,rfl,L,λq z=>by rw[<-y q z];exact C q z,λq i s v z hs K=>HJ G (E q i s v z (by rw[y q z];exact hs) K) (Je.1 (C q z).2 s (Jb (by rw[y q z];exact hs)))⟩
 .obtain⟨d,rfl,rfl,hF⟩:=A;split at d;rotate_left
  .exact d.elim
  rename_i B;obtain⟨rfl,rfl,M⟩:=B;obtain⟨ps,F,rfl,h,J⟩:=h;refine⟨ps,F,rfl,(h.keep ⟨Jf _,λ_ _ _=>rfl,λb _=>G b⟩ (λ_ _=>rfl)).le hF,J.keep (λi c p e d=> ?_)⟩;have:c<n:=c51 M i c e;simp[cut,this,d]
 .obtain⟨d,u,y⟩:=A;split at d;rotate_left
  .exact d.elim
  rename_i B;obtain⟨rfl,rfl,R⟩:=B;obtain⟨⟨ps,F,he⟩,r,g,rfl,L,E⟩:=h;have e:=Nh u;subst e;refine⟨⟨ps,F,by simp[cut,R,he]⟩,r,g,rfl,L,λq z=> ?_⟩;obtain⟨p,e,h⟩:=E q z;rw[y q z]at h;exact⟨p,e,D.fp_keep (λps F e=>⟨ps,F,by simp[cut,R,e],λ_ h=>h⟩) h⟩
 .obtain⟨d,rfl,S,jq⟩:=A;split at d;rotate_left
  .exact d.elim
  rename_i B;obtain⟨rfl,rfl⟩:=B;obtain⟨ps,F,rfl,h⟩:=h;have h:=h.keep (ps:=ps) (H':=H') ⟨Jf _,λ_ _ _=>rfl,λb _=>G b⟩ (λ_ _=>rfl);refine⟨ps,F,rfl,h.ql,h.nd,λi l=> ?_⟩;rcases h.mem i l with⟨u,y⟩|⟨u,y,h3⟩
  .exact .inl ⟨by rw[<-S i l];exact u,y⟩
  .obtain⟨U,e2,e3⟩:=jq i l u;refine .inr ⟨by rw[<-S i l];exact u,by rw[<-U];exact y,?_⟩;rw[<-U,<-e2];exact h3.le e3
 .exact Ja
 .exact A.elim
theorem c1y{n:Nat}{ρ:List Entry}:∀{a:List Entry},f76 n ρ a->∀(t:Nat) (e:Entry),CK t a=some e->e.guard=none/\∃x,CK t ρ=some x/\x.guard=none/\e.sv.in2 n=true/\x.sv.le2 e.sv
 | [],_=>λt e h=>by simp[CK]at h
 |y::r,h=>λt e d=>by
  simp only[CK]at d;split at d
  .rename_i hs;cases d;have b:=h.1;split at b
   .rename_i x g hx;split at b
    .rename_i i;obtain⟨f,j⟩:=b;split at f
     .rename_i c;exact⟨g,x,by rw[<-hs];exact hx,i,c,j⟩
     .exact f.elim
    .exact b.elim
   .exact b.elim
  .exact c1y h.2 t e d
def ancB(E:Env)(st:St):Bool:=decide (E.na<=st.own.length)
theorem b6r{E:Env}{q:Nat}{X A:Nat->Prop}{r:World}{u:Nat}{st d:St}{a:Act}(h:SD E q X A r u st a w μ)(B:Sx st d)(C:ancB E d=true):∃m,SD E q X A r u d a w m:=by
 obtain⟨F,G⟩:=B;have n:∀b,held A (cut d.own.length μ) b->held A μ b:=by
  intro b f;rcases f with f|⟨k,x,c,hx⟩
  .exact .inl f
  .refine .inr ⟨k,x,?_,hx⟩;unfold cut at c;split at c
   .exact c
   .cases c
 have l:∀{k x},cut d.own.length μ k=some x->k<d.own.length/\μ k=some x:=by
  intro k x c;unfold cut at c;split at c
  .exact⟨‹_›,c⟩
  .cases c
 refine⟨cut d.own.length μ,⟨λk x c=> ?_,λk H x I b c J=>h.own.inj k H x I b (l c).2 (l J).2,λk x b c=>h.own.rng k x b (l c).2,h.own.bnd⟩,h.fr,h.base,
  λg s i=>⟨(h.glo g s i).1,GJ n (h.glo g s i).2 (h.glo g s i).1⟩,h.dfr,h.size,λt e v=> ?_,λk c=>by unfold cut;rw[if_neg Dx],λj x hx=>by
   have h1:=Env.ak_lt (Env.an_ak hx);have h2:E.na<=d.own.length:=by simpa[ancB]using C
   unfold cut;rw[J7 Dx];exact h.anc j x hx⟩
 .obtain⟨y,c⟩:=l c;obtain⟨bl,K,f⟩:=h.own.blk k x c;obtain⟨b,z,o⟩:=b2q F k _ (J6 y);rw[K]at z;cases z;exact⟨_,J6 y,Blk.le_sound n f o⟩
 .obtain⟨i,x,hx,L,M,o⟩:=c1y G t e v;have:=h.env t x hx;unfold CZ at this⊢;rw[L]at this;rw[i];simp only at this⊢;rw[MJ hx]at this;rw[MJ v];exact c29 n (Qu this o) M
end
def d6k(E:Env)(own:List Blk)(ρ:Operand->Option SV)(e:Op):Option (Prop×SV×Blk):=
 match e with
 |.call c=>match c.callee with
  |.value f=>match ρ f with
   |some (.clo a [])=>match E.Hc a with
    |some h=>match c.args.toList.mapM ρ with
     |some d=>match d.all SV.pure with
      |true=>match h d []with
       |some r=>match r.own with
        | [b]=>some (r.pre,r.res.ren2 (λk=>some (own.length+k)),b.ren (λk=>some (own.length+k)))
        |_=>none
       |none=>none
      |false=>none
     |none=>none
    |none=>none
   |_=>none
  |_=>none
 |_=>none
section
variable{E:Env}{B0:Nat}{X A:Nat->Prop}{a:Act}{w:World}{μ:Mu}
theorem c9x(hC:GI E){own n:List Blk}(C:Own B0 X A w μ n)(hB:B0<=w.heap.size)(J:μ own.length=none)(Y:∀g s,E.glob g=some s->s.pure=true/\D w (held A μ) μ s (.pointer (some ⟨g,0,none⟩)))
 {ρ:Operand->Option SV} (K:∀(x:Operand) (s:SV),ρ x=some s->D w (held A μ) μ s (a.eval x)) {o:Oper} {L:Prop} {s:SV} {b:Blk} (m:d6k E own ρ o.op=some (L,s,b)) (hp:L) (db:n[own.length]?=some b):
 ∃f z,(execOp a.eval o).run E.P w=.ok (.enter f z) w/\Calls E.P f z w λe M=>∃v d,e=.returned v/\After B0 X A w M μ d n/\(∀j,j≠own.length->d j=μ j)/\D M (held A d) d s v:=by
 unfold d6k at m;split at m;rotate_left
 .cases m
 rename_i c d9;split at m;rotate_left
 .cases m
 rename_i f hf;split at m;rotate_left
 .cases m
 rename_i F N;split at m;rotate_left
 .cases m
 rename_i h X3;split at m;rotate_left
 .cases m
 rename_i xs m5;split at m;rotate_left
 .cases m
 rename_i ra;split at m;rotate_left
 .cases m
 rename_i r hr;split at m;rotate_left
 .cases m
 rename_i b0 qb;simp only[Ii]at m;obtain⟨rfl,rfl,rfl⟩:=m;have fw:=K _ _ N;generalize sb:a.eval f=vf at fw;obtain⟨⟨fn,h1,h2,h3⟩,hS⟩:=hC.2.2 F h X3;cases fw with
 |clo Z fe qd=>
 have P3:Z=[]:=Lj.1 fe;subst P3;have hD:=Tk (a:=a) K m5;have hm:c.args.map a.eval=(c.args.toList.map a.eval).toArray:=F6;have bt:(execOp a.eval o).run E.P w=.ok (.enter F (c.args.toList.map a.eval).toArray) w:=by simp only[execOp,d9,resolve,hf,sb,Deferred.ofValue,hm,Ij,invoke,callFunc,run_program,h1,h2,Ir,h3];simp
 have bc:∀b,held (held A μ) (λ_=>none) b->held A μ b:=by
  rintro b (l|⟨j,x,H,_⟩)
  .exact l
  .cases H
 have U5:∀b,held A μ b->b<w.heap.size:=by
  rintro b (l|⟨k,x,J,hx⟩)
  .exact C.bnd b l
  .exact(C.rng k x b J hx).1
 have X4:Own 0 (λ_=>True) (held A μ) w (λ_=>none) []:=⟨λk x hx=>(by cases hx),λk S x x' b hx=>(by cases hx),λk x b hx=>(by cases hx),U5⟩
 have X5:DL w (held (held A μ) (λ_=>none)) (λ_=>none) xs (c.args.toList.map a.eval):=⟨hD.1,λi s v hs hv=>HJ bc (hD.2 i s v hs hv) (Je.1 ra s (Jb hs))⟩
 have r9:∀g t,E.glob g=some t->t.pure=true/\D w (held (held A μ) (λ_=>none)) BN t (.pointer (some ⟨g,0,none⟩)):=λg t hg=>⟨(Y g t hg).1,GJ bc (Y g t hg).2 (Y g t hg).1⟩
 refine⟨F,_,bt,(hS (held A μ) w xs _ [] (λ_=>none) r U5 r9 X4 (λ_ _=>rfl) X5 hr hp).mono ?_⟩;rintro e M ⟨v,d,rfl,gz,sc,g9,_,q⟩;rw[qb]at gz sc;have T:∀b,¬Uz (λ_=>none) b:=by rintro b ⟨k,x,hx,_⟩;cases hx
 have U:∀{x b},d 0=some x->CN x b->b<M.heap.size/\¬held A μ b/\w.heap.size<=b:=by
  intro x b hx l;obtain⟨O,Q,y⟩:=gz.rng 0 x b hx l;refine⟨O,Q,?_⟩;rcases y with y|y
  .exact y
  .exact(T b y).elim
 refine⟨v,λk=>if k=own.length then d 0 else μ k,rfl,?_⟩;generalize B:(λk=>if k=own.length then d 0 else μ k:Mu)=μ2;have G:μ2 own.length=d 0:=by rw[<-B];simp
 have u:∀{k},k≠own.length->μ2 k=μ k:=λJ=>by rw[<-B];simp[J]
 have jg:∀b,held A μ2 b->held (held A μ) d b:=by
  rintro b (R|⟨k,x,hx,l⟩)
  .exact .inl (.inl R)
  .by_cases e:k=own.length
   .rw[e,G]at hx;exact .inr ⟨0,x,hx,l⟩
   .rw[u e]at hx;exact .inl (.inr ⟨k,x,hx,l⟩)
 have m8:∀k j x,(λk=>some (own.length+k)) k=some j->d k=some x->μ2 j=some x:=by
  intro k j x H hx;simp only[K0]at H;subst H;cases k with
  |zero=>rw[Me,G];exact hx
  |succ k=>rw[sc (k+1) Dz]at hx;cases hx
 have c7:Keeps w M (held A μ) (held A μ2) μ μ2:=by
  refine⟨q.size,λb l _=>q.block b l (T b),λb l hh=> ?_,λk x hx=> ?_⟩
  .rcases hh with R|⟨k,x,hx,S5⟩
   .exact .inl R
   .by_cases e:k=own.length
    .rw[e,G]at hx;have:=(U hx S5).2.2;omega
    .rw[u e]at hx;exact .inr ⟨k,x,hx,S5⟩
  .have e:k≠own.length:=λe=>by rw[e,J]at hx;cases hx
   rw[u e];exact hx
 refine⟨⟨⟨λk x hx=> ?_,λk S x x' b hx I l gb=> ?_,λk x b hx l=> ?_,λb l=>K9 (C.bnd b l) q.size⟩,⟨q.os,q.tape,q.output,q.drawn,q.size,λi hi _=>q.block i (K9 hi hB) (T i)⟩,c7⟩,λj H=>u H,b1c jg m8 g9⟩
 .by_cases e:k=own.length
  .subst e;rw[G]at hx;obtain⟨bl,V,bb⟩:=gz.blk 0 x hx;simp only[Mk,K0]at V;subst V;exact⟨_,db,bb.ren jg m8⟩
  .rw[u e]at hx;obtain⟨bl,V,bb⟩:=C.blk k x hx;exact⟨bl,V,bb.keep c7 (λb l=>q.block b (C.rng k x b hx l).1 (T b))⟩
 .by_cases e:k=own.length<;>by_cases W:S=own.length
  .rw[e,W]
  .rw[e,G]at hx;rw[u W]at I;exact((U hx l).2.1 (.inr ⟨S,x',I,gb⟩)).elim
  .rw[W,G]at I;rw[u e]at hx;exact((U I gb).2.1 (.inr ⟨k,x,hx,l⟩)).elim
  .rw[u e]at hx;rw[u W]at I;exact C.inj k S x x' b hx I l gb
 .by_cases e:k=own.length
  .rw[e,G]at hx;obtain⟨O,Q,y⟩:=U hx l;exact⟨O,λR=>Q (.inl R),.inl (Kz hB y)⟩
  .rw[u e]at hx;obtain⟨O,Q,y⟩:=C.rng k x b hx l;exact⟨K9 O q.size,Q,y⟩
end
theorem d0v{P:Program}{B0:Nat}{X A:Nat->Prop}{w:World}{μ:Mu}{own q:List Blk}(K:Own B0 X A w μ q)(Q:∀(k:Nat) (bl:Blk),own[k]?=some bl->q[k]?=some bl)(R:B0<=w.heap.size)(S:μ own.length=none){T ty:TypeId}{sz n:Nat}{f:Nat->List SV}{c:Option Nat}{y:SV}{v u:Value}{C:Prop}{k:Nat}{own':List Blk}{L:Bool}(hx:D w (held A μ) μ (.sl sz n f c) v)(hy:D w (held A μ) μ y u)
 (B:TC P own T (.sl sz n f c) y=some (C,k,own',L)) (hp:C) (G:∀b,own'[own.length]?=some b->q[own.length]?=some b):
 ∃r w' μ',(Builtin.append_ #[T,T] ty #[v,u]).run P w=.ok r w'/\D w' (held A μ') μ' (.osl own.length) r/\After B0 X A w w' μ μ' q/\∀j,j≠own.length->μ' j=μ j:=by
 simp only[TC,Jd]at B;obtain⟨e,hT,l,M,z,hz,⟨m,g⟩,S4,B⟩:=B;have U:=QK hT;split at B;rotate_left
 .cases B
 rename_i N;obtain⟨t5,ff,N⟩:=N;obtain⟨inf',E,b8,mq,rfl,pi⟩:=Rx (w:=w) (H:=held A μ) (μ:=μ) hz;rw[M]at b8;cases b8;have nv:E.cells.size=l.size:=Fd;have fx:∀v∈E.cells.toList,v.oneCell'=true:=SC pi N;obtain⟨V,I,news,rfl,t8,W2,j7,vd,jz,W,wq⟩:=b0q K Q hy S4;have zb:(Builtin.firstCells l.size m (.slice V m I)).run P w=.ok news.toArray w:=Sa j7 W;have fw:(Builtin.firstCells l.size m (.slice V m I)).run P w.drew=.ok news.toArray w.drew:=Sa j7 W;unfold b4s at B;dsimp only at B;split at B;rotate_left
 .cases B
 rename_i br;subst br;simp only[Ii]at B;obtain⟨rfl,rfl,rfl,rfl⟩:=B;obtain⟨J,fm,ru,O⟩:=hp;obtain⟨c,rfl⟩:∃I,c=some I:=by
  cases c with
  |none=>exact J.elim
  |some c=>exact⟨c,rfl⟩
 replace J:n=c:=J;obtain⟨a,d,olds,rfl,hnc0,hcx0,jx,ve,di,nw,zk⟩:=b0q K Q hx (sz:=l.size) (n:=n) (f:=f) (by simp[Re]);have zm:d=n:=by
  cases hx with
  |sl a b o m g hm hx F b7 hl hd=>
   rcases F with F|F
   .cases F
   .cases F;exact J.symm
 subst zm;have Y:=K;replace G:q[own.length]?=some (.row e l.size (d+m) (λj=>if j<d then f j else g (j-d)) none):=G _ Dz;rcases Ks m with Z|Z
 .subst Z;obtain rfl:d=0:=Dx;obtain rfl:news=[]:=Kv G9;obtain⟨o1,o2⟩:=c0m Y S G (a:=a);exact⟨_,w,_,b04 U M zb,.osl Ef,⟨o1,Fr.refl _ _ _,o2⟩,λj hj=>Em⟩
 .have zn:(Builtin.firstCells l.size d (.slice a d d)).run P w.drew=.ok olds.toArray w.drew:=Sa jx nw;have hr:=b01 (P:=P) (w:=w) (ty:=ty) U M mq (olds:=olds) (news:=news) zn fw Dx ru O;have zj:=Y.drew;have gh:=grownCap_ge w (d+m) d e;have gm:=Nn w (d+m) d e F5;obtain⟨o1,o2⟩:=Ta (x:=.slice (some ⟨w.heap.size,0,none⟩) (d+m) (grownCap w (d+m) d e)) zj R S G (.cells (olds++news++(Builtin.zeroCells E.cells (grownCap w (d+m) d e-(d+m))).toList).toArray e) (λb O=>(Xz Dx).1 O) (λμ' _ c7=>by
   have dm:=b2n (w':=w.drew.alloc (.cells (olds++news++(Builtin.zeroCells E.cells (grownCap w (d+m) d e-(d+m))).toList).toArray e)) (H':=held A μ') (μ':=μ') (o:=0) (us:=olds++news++(Builtin.zeroCells E.cells (grownCap w (d+m) d e-(d+m))).toList) di jz
    (λi j s v b8 hs t=>by have hj:j<l.size:=Ga;have b6:=LZ b8 hj;have j5:=(Vu t).1 Ff;rw[L7]at j5;exact((zk i j s v b8 hs j5).keep Keeps.drew).keep c7)
    (λi j s v b8 hs t=>by have hj:j<l.size:=Fq;have b6:=LZ b8 hj;have my:(d+i)*l.size=d*l.size+i*l.size:=M8 _ _ _;have:=(Vu t).2 Ff (by rw[jx,j7];omega);rw[jx,show 0+(d+i)*l.size+j-d*l.size=i*l.size+j from Dx]at this;exact((wq i j s v b8 hs this).keep Keeps.drew).keep c7)
   refine⟨_,_,rfl,gh,gm,.inl rfl,dm.1,.inr ⟨w.heap.size,0,_,Dx,rfl,N5 w.drew _,?_,λv t=> ?_,dm.2⟩⟩
   .simp only[J4,jx,j7,Lh,Nu,nv,<-M8];rw[show d+m+(grownCap w (d+m) d e-(d+m))=grownCap w (d+m) d e from Dx];exact C0
   .rcases Jt.1 t with t|t
    .rcases Jt.1 t with t|t
     .exact ve v t
     .exact vd v t
    .exact VJ fx _ v t)
  refine⟨_,_,_,hr,.osl Ef,⟨o1,Fr.drew.trans (Fr.alloc _ R),?_⟩,λj hj=>Em⟩;exact Cm
def d24(E:Env)(own:List Blk)(ρ:Operand->Option SV)(d:Op):Option (Prop×SV×Blk):=match d with
 |.call {callee:=.builtin .append,args:=⟨[x,y]⟩,argTypes:=⟨[T,U]⟩}=>if T=U then(ρ x).bind λe=>(ρ y).bind λg=>match e with
  |.sl h n f c=>match TC E.P own T (.sl h n f c) g with
   |some (p,_,a,true)=>(a[own.length]?).map λb=>(p,.osl own.length,b)
   |_=>none
  |_=>none
  else none
 |_=>none
theorem d07{E:Env}{B0:Nat}{X A:Nat->Prop}{a:Act}{w:World}{μ:Mu}{own d:List Blk}(q:Own B0 X A w μ d)(t:∀(k:Nat) (bl:Blk),own[k]?=some bl->d[k]?=some bl)(u:B0<=w.heap.size)(v:μ own.length=none)
 {ρ:Operand->Option SV} (i:∀(x:Operand) (s:SV),ρ x=some s->D w (held A μ) μ s (a.eval x)) {o:Oper} {l:Prop} {s:SV} {b:Blk} (e:d24 E own ρ o.op=some (l,s,b)) (z:l) (B:d[own.length]?=some b):
 ∃r m g,(execOp a.eval o).run E.P w=.ok (.value r) m/\After B0 X A w m μ g d/\(∀j,j≠own.length->g j=μ j)/\D m (held A g) g s r:=by
 unfold d24 at e;split at e;rotate_left
 .cases e
 rename_i x y T U C;split at e;rotate_left
 .cases e
 rename_i F;subst F;simp only[Jd]at e;obtain⟨sx,G,sy,H,e⟩:=e;split at e;rotate_left
 .cases e
 rename_i sz n f c;split at e;rotate_left
 .cases e
 rename_i p0 k own' I;simp only[Ih]at e;obtain⟨b0,J,rfl,rfl,rfl⟩:=e;obtain⟨r,m,g,K,L,M,N⟩:=d0v (P:=E.P) (ty:=o.type) q t u v (i _ _ G) (i _ _ H) I z (λb h=>by rw[J]at h;cases h;exact B);refine⟨r,m,g,?_,M,N,L⟩;simp only[execOp,C,resolve,Ij,invoke,builtin];rw[show (⟨[x,y]⟩:Array Operand).map a.eval= #[a.eval x,a.eval y]from Dz,K];simp
end Go.Proofs.YtaihldljnlgnoaaGreatDoor.V
