/-
  Parts of the proof: H0 G0 E1 V15 V15b V16 W1 W2 W3 W4 G1 O1 V17 V18 V19 R1 V20. Conditions: none.
-/
import Derived.Test.YtdblhepcmjecgaaGreatDoorGdc1
import Derived.ProofKit
import Derived.LaidMore
import Derived.LaidHandle
import Derived.OpenShut
import Derived.Carry
import Derived.Stop.Joined
set_option maxRecDepth 100000
set_option maxHeartbeats 40000000
namespace Go.Proofs.YtdblhepcmjecgaaGreatDoor.V
open Go
def c1v:List Nat→Bool
 | []=>true
 |x::r=> !r.contains x&&c1v r
def idx(k:Nat):List Nat→Option Nat
 | []=>none
 |a::r=>if a=k then some 0 else(idx k r).map (· +1)
theorem b42{k j:Nat}:∀{l:List Nat},idx k l=some j→l[j]?=some k:=by
 intro l
 induction l generalizing j with
 |nil=>intro h;simp[idx]at h
 |cons a r ih=>
  intro h
  simp only[idx]at h
  split at h
  ·rename_i e;cases h;simp[e]
  ·simp only[J1]at h
   obtain⟨i,hi,rfl⟩:=h
   simpa using ih hi
theorem c29{k:Nat}:∀{l:List Nat},idx k l=none→k∉l:=by
 intro l
 induction l with
 |nil=>intro _ h;simp at h
 |cons a r ih=>
  intro h
  simp only[idx]at h
  split at h
  ·cases h
  ·rename_i e
   simp only[Option.map_eq_none_iff]at h
   intro hm
   rcases J8.1 hm with hm|hm
   ·exact e hm.symm
   ·exact ih h hm
theorem b8f{l:List Nat}(h:l.Nodup){k j:Nat}(hj:l[j]?=some k):idx k l=some j:=by
 cases hi:idx k l with
 |none=>exact absurd (J0 hj) (c29 hi)
 |some i=>
  have b7:=b42 hi
  obtain⟨h1,e1⟩:=Iz.1 b7
  obtain⟨h2,e2⟩:=Iz.1 hj
  have hp:=K8.1 h
  rcases Lx i j with h9|rfl|h9
  ·exact absurd (e1.trans e2.symm) (hp i j h1 h2 h9)
  ·rfl
  ·exact absurd (e2.trans e1.symm) (hp j i h2 h1 h9)
def SV.ren00(g:Nat→Option Nat):SV→SV
 |.own k o=>match g k with|some j=>.own j o|none=>.any
 |.osl k=>match g k with|some j=>.osl j|none=>.any
 |.omp k=>match g k with|some j=>.omp j|none=>.any
 |.oel k sz i o=>match g k with|some j=>.oel j sz i o|none=>.any
 |.fp ok k i o=>match g k with|some j=>.fp ok j i o|none=>.any
 |.agg _|.tup _=>.any
 |.clo f cs=>if cs.isEmpty then .clo f []else .any
 |s=>s
def SV.ren0(g:Nat→Option Nat):SV→SV
 |.clo f cs=>.clo f (cs.map (SV.ren00 g))
 |s=>s.ren00 g
def SV.ren1(g:Nat→Option Nat):SV→SV
 |.agg cs=>.agg (cs.map (SV.ren0 g))
 |s=>s.ren0 g
def SV.ren2(g:Nat→Option Nat):SV→SV
 |.tup vs=>.tup (vs.map (SV.ren1 g))
 |s=>s.ren1 g
def Blk.ren(g:Nat→Option Nat):Blk→Blk
 |.cells T cs=>.cells T (cs.map (SV.ren0 g))
 |.pmap K k has idx=>match g k with|some j=>.pmap K j has idx|none=>.dead
 |.fam T Ts n (some (i,c)) F=>match g c with|some j=>.fam T Ts n (some (i,j)) F|none=>.dead
 |.rowh T sz n f c i u=>.rowh T sz n f c i (u.map (SV.ren0 g))
 |b=>b
section
variable {w : World} {H H' : Nat → Prop} {μ μ' : Mu} {g : Nat → Option Nat}
theorem c7t (hH : ∀ b, H' b → H b) (hg : ∀ k j x, g k = some j → μ k = some x → μ' j = some x) {s : SV} {v : Value} (h : D w H μ s v) : D w H' μ' (s.ren00 g) v := by
  have lift : s.pure = true → s.ren00 g = s → D w H' μ' (s.ren00 g) v := fun hp e => by
    rw [e]
    exact b1w hH h hp
  cases h with
  | own h => simp only [SV.ren00]; split; · rename_i hj; exact .own (hg _ _ _ hj h)
             · exact .any
  | osl h => simp only [SV.ren00]; split; · rename_i hj; exact .osl (hg _ _ _ hj h)
             · exact .any
  | omp h => simp only [SV.ren00]; split; · rename_i hj; exact .omp (hg _ _ _ hj h)
             · exact .any
  | oel h => simp only [SV.ren00]; split; · rename_i hj; exact .oel (hg _ _ _ hj h)
             · exact .any
  | fp h =>
    simp only [SV.ren00]
    split
    · rename_i hj; cases (D.fp h : D w H μ _ _) with
      | fp h =>
        refine .fp ?_
        split
        · rename_i e
          rw [Iw e] at h
          obtain ⟨ps, qs, b, h1, h2, h3⟩ := h
          exact ⟨ps, qs, b, hg _ _ _ hj h1, h2, h3⟩
        · rename_i e
          rwa [Iy e] at h
    · exact .any
  | agg => exact .any
  | tup => exact .any
  | clo vs hl hd =>
    simp only [SV.ren00]
    split
    · rename_i hc
      have := List.isEmpty_iff.1 hc
      subst this
      exact C6
    · exact .any
  | int => exact .int
  | bool => exact .bool
  | con => exact .con
  | ub h1 h2 => exact .ub h1 h2
  | any => exact .any
  | sl a b o m g hm hx hc h8 hl hd => exact lift rfl rfl
  | rel b o g hi hb h8 hl hd => exact lift rfl rfl
  | mp r g hb hm hl hd => exact lift rfl rfl
theorem b4w(hH:∀b,H' b→H b)(hg:∀k j x,g k=some j→μ k=some x→μ' j=some x){s:SV}{v:Value}(h:D w H μ s v):D w H' μ' (s.ren0 g) v:=by
 unfold SV.ren0
 split
 ·cases h with
  |clo vs hl hd=>
   refine .clo vs E9 (fun i s v hs hv=> ?_)
   simp only[Id]at hs
   obtain⟨s0,bv,rfl⟩:=hs
   exact c7t hH hg (hd i s0 v bv hv)
 ·exact c7t hH hg h
theorem b94(hH:∀b,H' b→H b)(hg:∀k j x,g k=some j→μ k=some x→μ' j=some x){s:SV}{v:Value}(h:D w H μ s v):D w H' μ' (s.ren1 g) v:=by
 unfold SV.ren1
 split
 ·cases h with
  |agg vs hl hd=>
   refine .agg vs E9 (fun i s v hs hv=> ?_)
   simp only[Id]at hs
   obtain⟨s0,bv,rfl⟩:=hs
   exact b4w hH hg (hd i s0 v bv hv)
 ·exact b4w hH hg h
theorem b95(hH:∀b,H' b→H b)(hg:∀k j x,g k=some j→μ k=some x→μ' j=some x){s:SV}{v:Value}(h:D w H μ s v):D w H' μ' (s.ren2 g) v:=by
 unfold SV.ren2
 split
 ·cases h with
  |tup vs hl hd=>
   refine .tup vs E9 (fun i s v hs hv=> ?_)
   simp only[Id]at hs
   obtain⟨s0,bv,rfl⟩:=hs
   exact b94 hH hg (hd i s0 v bv hv)
 ·exact b94 hH hg h
theorem b19.ren(hH:∀b,H' b→H b)(hg:∀k j x,g k=some j→μ k=some x→μ' j=some x){x:Value}{bl:Blk}(h:b19 w H μ x bl):b19 w H' μ' x (bl.ren g):=by
 have up:∀{s:SV} {v:Value},s.pure=true→D w H μ s v→D w H' μ' s v:=fun hp h=>b1w hH h hp
 cases bl with
 |cells T cs=>
  obtain⟨b,vs,rfl,hh,hl,h1,hd⟩:=h
  refine⟨b,vs,rfl,hh,E9,h1,fun i s v hs hv=> ?_⟩
  simp only[Id]at hs
  obtain⟨s0,bv,rfl⟩:=hs
  exact b4w hH hg (hd i s0 v bv hv)
 |row T sz n f c=>
  obtain⟨a,m,rfl,hn,hm,hc,hl,b9⟩:=h
  refine⟨a,m,rfl,hn,hm,hc,hl,?_⟩
  rcases b9 with h|⟨b,o,vs,c7,rfl,hh,ho,h1,hd⟩
  ·exact .inl h
  ·exact .inr ⟨b,o,vs,c7,rfl,hh,ho,h1,fun i j s v hi hs hv=>up (J4.1 (hl i hi).2 s (J0 hs)) (hd i j s v hi hs hv)⟩
 |map K ag has val=>
  obtain⟨r,g,rfl,hm,hl,hd⟩:=h
  exact⟨r,g,rfl,hm,hl,fun q i s v hq hs hv=>up (J4.1 (hl q hq).2 s (J0 hs)) (hd q i s v hq hs hv)⟩
 |fam T Ts n br F=>
  obtain⟨ps,qs,rfl,h,hh⟩:=h
  have h':=h.keep (H':=H') ⟨J2 _,fun _ _ _=>rfl,fun b _=>hH b⟩ (fun _ _=>rfl)
  match br,h',hh with
  |none,h',hh=>exact⟨ps,qs,rfl,h',fun i c e=>E4⟩
  |some (i,c),h',hh=>
   simp only[Blk.ren]
   split
   ·rename_i j hj
    refine⟨ps,qs,rfl,h',fun i' c' e=> ?_⟩
    cases e
    obtain⟨p,e1,e2⟩:=hh i c rfl
    exact⟨p,e1,hg _ _ _ hj e2⟩
   ·exact Ix
 |pmap K k has idx=>
  simp only[Blk.ren]
  split
  ·rename_i j hj
   obtain⟨⟨ps,qs,he⟩,r,g,rfl,hm,hd⟩:=h
   refine⟨⟨ps,qs,hg _ _ _ hj he⟩,r,g,rfl,hm,fun q hq=> ?_⟩
   obtain⟨p,e,h⟩:=hd q hq
   refine⟨p,e,?_⟩
   cases h with
   |fp h=>
    simp only[K5]at h
    obtain⟨ps,qs,b,h1,h2,h3⟩:=h
    exact .fp (by simp only[K5];exact⟨ps,qs,b,hg _ _ _ hj h1,h2,h3⟩)
  ·exact Ix
 |rowh T sz n f c i u=>exact b5f.to (SV.ren0 g) (fun _ _=>rfl) (fun s v hp h=>up hp h) (fun s v h=>b4w hH hg h) h
 |pool T sz n hd al ln ct=>
  obtain⟨qs,rfl,h⟩:=h
  exact D8
 |dead=>exact Ix
end
def SV.refs0:SV→List Nat
 |.own k _|.osl k|.omp k|.oel k _ _ _|.fp _ k _ _=>[k]
 |_=>[]
def SV.refs1:SV→List Nat
 |.agg cs=>cs.flatMap SV.refs0
 |.clo _ cs=>cs.flatMap SV.refs0
 |s=>s.refs0
def Blk.refs:Blk→List Nat
 |.cells _ cs=>cs.flatMap SV.refs1
 |.pmap _ k _ _=>[k]
 |_=>[]
def d34:List Nat→List Nat→List Nat
 |acc,[]=>acc
 |acc,k::r=>d34 (if acc.contains k then acc else acc++[k]) r
def close(own:List Blk):Nat→List Nat→List Nat
 |0,l=>l
 |n+1,l=>close own n (d34 l (l.flatMap fun k=>match own[k]? with|some b=>b.refs|none=>[]))
def c2j(own:List Blk)(xs:List SV):List Nat:=close own 2 (d34 [] (xs.flatMap SV.refs1))
def g43(g:Nat→Blk→Blk):Nat→List Blk→List Blk
 |_,[]=>[]
 |k,b::r=>g k b::g43 g (k+1) r
theorem c1j{g:Nat→Blk→Blk}:∀{l:List Blk} {k i:Nat},(g43 g k l)[i]?=(l[i]?).map (g (k+i)):=by
 intro l
 induction l with
 |nil=>intro k i;simp[g43]
 |cons b r ih=>
  intro k i
  match i with
  |0=>simp[g43]
  |i+1=>simp only[g43,Ks,ih];rw[show k+1+i=k+(i+1)from Dt]
theorem b2u{g:Nat→Blk→Blk}:∀{l:List Blk} {k:Nat},(g43 g k l).length=l.length:=by
 intro l
 induction l with
 |nil=>intro k;rfl
 |cons b r ih=>intro k;simp[g43,ih]
def c3e:Option Blk→Bool
 |some (.row _ _ _ _ _)=>true
 |some (.fam _ _ _ _ _)=>true
 |_=>false
def f6i(sel:List Nat)(n:Nat)(j:Nat):Option Nat:=some (if j<sel.length then sel.getD j 0 else n+(j-sel.length))
def c1g(sel:List Nat)(own:List Blk)(r:HRes)(kills:List Nat):List Blk:=
 g43 (fun k b=>match idx k sel with|some j=>(r.own.getD j b).ren (f6i sel own.length)|none=>b.kill kills) 0 own++(r.own.drop sel.length).map (Blk.ren (f6i sel own.length))
def d8n{α:Sort _}(n:Nat)(K:Nat→α):α:=
 match Nat.beq n 0 with|true=>K 0|false=>match Nat.beq n 1 with|true=>K 1|false=>match Nat.beq n 2 with|true=>K 2|false=>match Nat.beq n 3 with|true=>K 3|false=>match Nat.beq n 4 with|true=>K 4|false=>match Nat.beq n 5 with|true=>K 5|false=>match Nat.beq n 6 with|true=>K 6|false=>match Nat.beq n 7 with|true=>K 7|false=>match Nat.beq n 8 with|true=>K 8|false=>match Nat.beq n 9 with|true=>K 9|false=>match Nat.beq n 10 with|true=>K 10|false=>match Nat.beq n 11 with|true=>K 11|false=>match Nat.beq n 12 with|true=>K 12|false=>match Nat.beq n 13 with|true=>K 13|false=>match Nat.beq n 14 with|true=>K 14|false=>match Nat.beq n 15 with|true=>K 15|false=>match Nat.beq n 16 with|true=>K 16|false=>match Nat.beq n 17 with|true=>K 17|false=>match Nat.beq n 18 with|true=>K 18|false=>match Nat.beq n 19 with|true=>K 19|false=>match Nat.beq n 20 with|true=>K 20|false=>match Nat.beq n 21 with|true=>K 21|false=>match Nat.beq n 22 with|true=>K 22|false=>match Nat.beq n 23 with|true=>K 23|false=>K n
theorem c5k{α:Sort _}(n:Nat)(K:Nat→α):d8n n K=K n:=by
 unfold d8n
 repeat' split
 all_goals first
  |rfl
  |(rename_i h;rw[Nat.eq_of_beq_eq_true h])
def f6q{α:Sort _}:List Nat→(List Nat→α)→α
 | [],K=>K []
 |n::r,K=>d8n n fun n=>f6q r fun r=>K (n::r)
theorem d2c{α:Sort _}:∀(l:List Nat) (K:List Nat→α),f6q l K=K l
 | [],_=>rfl
 |n::r,K=>by simp only[f6q,c5k,d2c r]
def SV.g0{α:Sort _}(s:SV)(K:SV→α):α:=match s with
 |.own k o=>d8n k fun k=>d8n o fun o=>K (.own k o)
 |.osl k=>d8n k fun k=>K (.osl k)
 |.oel k sz i o=>d8n k fun k=>d8n o fun o=>K (.oel k sz i o)
 |.rel sz n f i o=>d8n o fun o=>K (.rel sz n f i o)
 |.omp k=>d8n k fun k=>K (.omp k)
 |.fp ok k i o=>d8n k fun k=>d8n o fun o=>K (.fp ok k i o)
 |s=>K s
theorem SV.g0_eq{α:Sort _}(s:SV)(K:SV→α):s.g0 K=K s:=by cases s<;>simp only[SV.g0,c5k]
def gL{α:Sort _}:List SV→(List SV→α)→α
 | [],K=>K []
 |s::r,K=>s.g0 fun s=>gL r fun r=>K (s::r)
theorem j19{α:Sort _}:∀(l:List SV) (K:List SV→α),gL l K=K l
 | [],_=>rfl
 |s::r,K=>by simp only[gL,SV.g0_eq,j19 r]
def SV.g1{α:Sort _}(s:SV)(K:SV→α):α:=match s with
 |.agg cs=>gL cs fun cs=>K (.agg cs)
 |.clo f cs=>gL cs fun cs=>K (.clo f cs)
 |s=>s.g0 K
theorem SV.g1_eq{α:Sort _}(s:SV)(K:SV→α):s.g1 K=K s:=by cases s<;>simp only[SV.g1,j19,SV.g0_eq]
def gL1{α:Sort _}:List SV→(List SV→α)→α
 | [],K=>K []
 |s::r,K=>s.g1 fun s=>gL1 r fun r=>K (s::r)
theorem g8g{α:Sort _}:∀(l:List SV) (K:List SV→α),gL1 l K=K l
 | [],_=>rfl
 |s::r,K=>by simp only[gL1,SV.g1_eq,g8g r]
def gBlk{α:Sort _}(b:Blk)(K:Blk→α):α:=match b with
 |.cells T cs=>gL cs fun cs=>K (.cells T cs)
 |.row T sz n f c=>K (.row T sz n f c)
 |.map T ag h v=>K (.map T ag h v)
 |.fam T Ts n br F=>K (.fam T Ts n br F)
 |.pmap T k h v=>d8n k fun k=>K (.pmap T k h v)
 |.rowh T sz n f c i u=>gL u fun u=>K (.rowh T sz n f c i u)
 |.pool T sz n hd al ln ct=>K (.pool T sz n hd al ln ct)
 |.dead=>K .dead
theorem j1z{α:Sort _}(b:Blk)(K:Blk→α):gBlk b K=K b:=by cases b<;>simp only[gBlk,j19,c5k]
def memN:List Nat→Nat→Bool
 | [],_=>false
 |x::r,n=>match Nat.beq x n with
  |true=>true
  |false=>memN r n
theorem f6k:∀(l:List Nat) (n:Nat),memN l n=l.contains n
 | [],_=>rfl
 |x::r,n=>by
  simp only[memN,f6k r,List.contains_cons]
  split
  ·rename_i h;simp[Nat.eq_of_beq_eq_true h]
  ·rename_i h
   have:¬n=x:=fun e=>by rw[e,Nat.beq_refl]at h;cases h
   simp[this]
def addF{α:Sort _}:List Nat→List Nat→(List Nat→α)→α
 |acc,[],K=>K acc
 |acc,k::r,K=>d8n k fun k=>match memN acc k with
  |true=>addF acc r K
  |false=>f6q (acc++[k]) fun acc=>addF acc r K
theorem d27{α:Sort _}:∀(l acc:List Nat) (K:List Nat→α),addF acc l K=K (d34 acc l)
 | [],_,_=>rfl
 |k::r,acc,K=>by
  simp only[addF,c5k,d2c,d34,f6k]
  split
  ·rename_i h;rw[Iw h];exact d27 r _ K
  ·rename_i h;rw[Iy (by rw[h];exact M7)];exact d27 r _ K
def f2k{α:Sort _}(own:List Blk):Nat→List Nat→(List Nat→α)→α
 |0,l,K=>K l
 |n+1,l,K=>addF l (l.flatMap fun k=>match own[k]? with|some b=>b.refs|none=>[]) fun l=>f2k own n l K
theorem d4z{α:Sort _}{own:List Blk}:∀(n:Nat) (l:List Nat) (K:List Nat→α),f2k own n l K=K (close own n l)
 |0,_,_=>rfl
 |n+1,l,K=>by simp only[f2k,d27,close,d4z n]
def selF{α:Sort _}(own:List Blk)(xs:List SV)(K:List Nat→α):α:=addF [] (xs.flatMap SV.refs1) fun l=>f2k own 2 l K
theorem j4f{α:Sort _}(own:List Blk)(xs:List SV)(K:List Nat→α):selF own xs K=K (c2j own xs):=by
 simp only[selF,d27,d4z,c2j]
def g1x{β:Type _}(own:List Blk)(g:Nat→Option Nat):List Nat→(List Blk→Option β)→Option β
 | [],K=>K []
 |k::r,K=>match own[k]? with
  |some b=>gBlk (b.ren g) fun b=>g1x own g r fun bs=>K (b::bs)
  |none=>none
theorem f27{β:Type _}{own:List Blk}{g:Nat→Option Nat}:∀(l:List Nat) (K:List Blk→Option β),g1x own g l K=(l.mapM fun k=>(own[k]?).map (Blk.ren g)).bind K
 | [],K=>by simp[g1x]
 |k::r,K=>by
  simp only[g1x,j1z]
  split
  ·rename_i b hb
   rw[f27 r]
   simp[hb,Option.bind_assoc]
  ·rename_i hb
   simp[hb]
def f73{β:Type _}(ρ:Operand→Option SV):List Operand→(List SV→Option β)→Option β
 | [],K=>K []
 |x::r,K=>match ρ x with
  |some s=>s.g1 fun s=>f73 ρ r fun ss=>K (s::ss)
  |none=>none
theorem f0v{β:Type _}{ρ:Operand→Option SV}:∀(l:List Operand) (K:List SV→Option β),f73 ρ l K=(l.mapM ρ).bind K
 | [],K=>by simp[f73]
 |x::r,K=>by
  simp only[f73,SV.g1_eq]
  split
  ·rename_i s hs
   rw[f0v r]
   simp[hs,Option.bind_assoc]
  ·rename_i hs
   simp[hs]
def d4h(E:Env)(own:List Blk)(ρ:Operand→Option SV)(op:Op):Option (Prop×SV×List Blk×List Nat):=
 match op with
 |.call c=>match c.callee with
  |.value f=>match ρ f with
   |some (.clo fid caps)=>(E.Hc fid).bind fun h=>(c.args.toList.mapM ρ).bind fun xs=>
    (((c2j own (xs++caps)).mapM fun k=>(own[k]?).map (Blk.ren fun k=>idx k (c2j own (xs++caps))))).bind fun lown=>
      (h ((xs++caps).map (SV.ren1 fun k=>idx k (c2j own (xs++caps)))) lown).bind fun r=>
        if c1v (c2j own (xs++caps))&&decide (lown.length≤r.own.length)&&r.chg.all (fun j=>c3e lown[j]?&& !E.ak ((c2j own (xs++caps)).getD j 0))then
         some (r.pre,r.res.ren2 (f6i (c2j own (xs++caps)) own.length),c1g (c2j own (xs++caps)) own r (r.chg.map fun j=>(c2j own (xs++caps)).getD j 0),r.chg.map fun j=>(c2j own (xs++caps)).getD j 0)
        else none
   |_=>none
  |_=>none
 |_=>none
def d0w(E:Env)(own:List Blk)(ρ:Operand→Option SV)(op:Op):Option (Prop×SV×List Blk×List Nat):=
 match op with
 |.call c=>match c.callee with
  |.value f=>match ρ f with
   |some (.clo fid caps)=>match E.Hc fid with
    |some h=>f73 ρ c.args.toList fun xs=>gL1 (xs++caps) fun ys=>selF own ys fun sel=>
     g1x own (fun k=>idx k sel) sel fun lown=>gL1 (ys.map (SV.ren1 fun k=>idx k sel)) fun zs=>match h zs lown with
      |some r=>match c1v sel&&decide (lown.length≤r.own.length)&&r.chg.all (fun j=>c3e lown[j]?&& !E.ak (sel.getD j 0))with
       |true=>some (r.pre,r.res.ren2 (f6i sel own.length),c1g sel own r (r.chg.map fun j=>sel.getD j 0),r.chg.map fun j=>sel.getD j 0)
       |false=>none
      |none=>none
    |none=>none
   |_=>none
  |_=>none
 |_=>none
theorem c8w(E:Env)(own:List Blk)(ρ:Operand→Option SV)(op:Op):d0w E own ρ op=d4h E own ρ op:=by
 unfold d0w d4h
 split
 ·rename_i c
  split
  ·rename_i f
   split
   ·rename_i fid caps hf
    cases hh:E.Hc fid with
    |none=>simp
    |some h=>
     simp only[f0v,g8g,j4f,f27,Lq]
     congr 1
     funext xs
     congr 1
     funext lown
     cases h (List.map (SV.ren1 fun k=>idx k (c2j own (xs++caps))) (xs++caps)) lown with
     |none=>simp
     |some r=>
      simp only[Lq]
      split
      ·rename_i hc;rw[Iw hc]
      ·rename_i hc;rw[Iy (by rw[hc];exact M7)]
   ·rfl
  ·rfl
 ·rfl
section
variable {E : Env} {B0 : Nat} {X A : Nat → Prop} {w0 : World} {nt : Nat} {st : St} {a : Act} {w : World} {μ : Mu}
theorem b8b:∀{l:List Nat},c1v l=true→l.Nodup
 | [],_=>List.nodup_nil
 |x::r,h=>by
  simp only[c1v,Is,Md,L1]at h
  exact M9.2 ⟨h.1,b8b h.2⟩
theorem d3d(hC:b1u E)(h:SD E B0 X A w0 nt st a w μ){o:Oper}{pre:Prop}{s:SV}{own':List Blk}{kills:List Nat}(he:d4h E st.own (opd E st.ρ none) o.op=some (pre,s,own',kills))(hp:pre)
 {K:Act→World→Prop} {Q:Exit→Act→World→Prop} (hK:∀v w' μ',Own B0 X A w' μ' own'→Fr B0 X w w'→Keeps' kills w w' (held A μ) (held A μ') μ μ'→(∀k,own'.length≤k→μ' k=none)→(∀k x,E.an k=some x→μ' k=some x)→D w' (held A μ') μ' s v→K (a.put o.dst v) w'):o.wp E.P a w K Q:=by
 have hρ:=h.opds (g:=none) (fun q b e=>E4)
 unfold d4h at he
 split at he
 rotate_left
 ·cases he
 rename_i c cn
 split at he
 rotate_left
 ·cases he
 rename_i f hf
 split at he
 rotate_left
 ·cases he
 rename_i fid caps hρf
 simp only[J3]at he
 obtain⟨hk,nf,xs,gn,lown,rp,r,hr,he⟩:=he
 generalize hsel:c2j st.own (xs++caps)=sel at he rp hr
 split at he
 rotate_left
 ·cases he
 rename_i da
 simp only[Ih]at da
 obtain⟨⟨fk,b8⟩,wn⟩:=da
 simp only[Ib]at he
 obtain⟨rfl,rfl,rfl,rfl⟩:=he
 have ka:=b8b fk
 obtain⟨m1,m2⟩:=b38 rp
 have fe:=hρ _ _ hρf
 generalize rc:a.eval f=vf at fe
 obtain⟨⟨fn,h1,h2,h3⟩,hS⟩:=hC.2.2 fid hk nf
 cases fe with
 |clo cvs d9 n9=>
 have hD:=f05 (b3n (a:=a) hρ gn) (⟨d9,n9⟩:DL w (held A μ) μ caps cvs)
 have hm:c.args.map a.eval=(c.args.toList.map a.eval).toArray:=Ex
 have bi:(execOp a.eval o).run E.P w=.ok (.enter fid ((c.args.toList.map a.eval)++cvs).toArray) w:=by
  simp only[execOp,cn,resolve,hf,rc,Deferred.ofValue,hm,Ic,invoke,callFunc,run_program,h1,h2,Ij,h3]
  simp
 let μc:Mu:=fun j=>(sel[j]?).bind μ
 let Ac:Nat→Prop:=fun b=>A b∨∃k x,k∉sel∧μ k=some x∧Has x b
 have hμc:∀{j x},μc j=some x→∃k,sel[j]?=some k∧μ k=some x:=fun hj=>by simpa[μc,J3]using hj
 have bp:∀b,held Ac μc b↔held A μ b:=by
  intro b
  constructor
  ·rintro((hb|⟨k,x,_,hk,hx⟩)|⟨j,x,hj,hx⟩)
   ·exact .inl hb
   ·exact .inr ⟨k,x,hk,hx⟩
   ·obtain⟨k,_,hk⟩:=hμc hj
    exact .inr ⟨k,x,hk,hx⟩
  ·rintro(hb|⟨k,x,hk,hx⟩)
   ·exact .inl (.inl hb)
   ·by_cases tf:k∈sel
    ·obtain⟨j,hj,e⟩:=Jg.1 tf
     exact .inr ⟨j,x,by simp[μc,Iv hj,e,hk],hx⟩
    ·exact .inl (.inr ⟨k,x,tf,hk,hx⟩)
 have fb:∀k j x,idx k sel=some j→μ k=some x→μc j=some x:=fun k j x hj hk=>by
  have:=b42 hj
  simp[μc,this,hk]
 have wq:∀b,Ac b→b<w.heap.size:=by
  rintro b (hb|⟨k,x,_,hk,hx⟩)
  ·exact h.own.bnd b hb
  ·exact(h.own.rng k x b hk hx).1
 have Nq:Own 0 (fun _=>True) Ac w μc lown:=by
  refine⟨fun j x hj=> ?_,fun j j' x x' b hj bh hx d4=> ?_,fun j x b hj hx=> ?_,wq⟩
  ·obtain⟨k,hk,hx⟩:=hμc hj
   obtain⟨bl,e,b6⟩:=h.own.blk k x hx
   obtain⟨y,hy,e2⟩:=m2 j k hk
   rw[e]at e2
   simp only[K7,Jh]at e2
   subst e2
   exact⟨_,hy,b6.ren (fun b hb=>(bp b).1 hb) fb⟩
  ·obtain⟨k,hk,mq⟩:=hμc hj
   obtain⟨k',cm,tg⟩:=hμc bh
   have:=h.own.inj k k' x x' b mq tg hx d4
   subst this
   have e1:=b8f ka hk
   have e2:=b8f ka cm
   rw[e1]at e2
   cases e2
   rfl
  ·obtain⟨k,hk,mq⟩:=hμc hj
   obtain⟨r1,r2,r3⟩:=h.own.rng k x b mq hx
   refine⟨r1,?_,.inl (J5 _)⟩
   rintro(hb|⟨k',x',tf,cm,d4⟩)
   ·exact r2 hb
   ·have:=h.own.inj k k' x x' b mq cm hx d4
    subst this
    exact tf (J0 hk)
 have Nr:DL w (held Ac μc) μc ((xs++caps).map (SV.ren1 fun k=>idx k sel)) ((c.args.toList.map a.eval)++cvs):=by
  refine⟨by simpa using hD.1,fun i s v hs hv=> ?_⟩
  simp only[Id]at hs
  obtain⟨s0,bv,rfl⟩:=hs
  exact b94 (fun b hb=>(bp b).1 hb) fb (hD.2 i s0 v bv hv)
 have hfreshc:∀j,lown.length≤j→μc j=none:=fun j hj=>by
  have:sel[j]?=none:=L0 Dt
  simp[μc,this]
 have pn:∀g t,E.glob g=some t→t.pure=true∧D w (held Ac μc) b0a t (.pointer (some ⟨g,0,none⟩)):=fun g t hg=>
  ⟨(h.glo g t hg).1,b0i (fun b hb=>(bp b).1 hb) (h.glo g t hg).2 (h.glo g t hg).1⟩
 unfold Oper.wp
 rw[bi]
 refine(hS Ac w _ _ lown μc r wq pn Nq hfreshc Nr hr hp).mono ?_
 rintro e w' ⟨v,μ',rfl,gp,rd,dn,hsame,bg⟩
 suffices h5:∃μ2:Mu,Own B0 X A w' μ2 (c1g sel st.own r (r.chg.map fun j=>sel.getD j 0))∧Fr B0 X w w'∧Keeps' (r.chg.map fun j=>sel.getD j 0) w w' (held A μ) (held A μ2) μ μ2∧(∀k,(c1g sel st.own r (r.chg.map fun j=>sel.getD j 0)).length≤k→μ2 k=none)∧(∀k x,E.an k=some x→μ2 k=some x)∧D w' (held A μ2) μ2 (r.res.ren2 (f6i sel st.own.length)) v by
  obtain⟨μ2,q1,q2,q3,q4,q5,q6⟩:=h5
  exact hK v w' μ2 q1 q2 q3 q4 q5 q6
 refine⟨fun k=>match idx k sel with|some j=>μ' j|none=>if st.own.length≤k then μ' (k-st.own.length+sel.length)else μ k,?_⟩
 generalize hμ2:(fun k=>match idx k sel with|some j=>μ' j|none=>if st.own.length≤k then μ' (k-st.own.length+sel.length)else μ k:Mu)=μ2
 have hsel_lt:∀{k},k∈sel→k<st.own.length:=fun hk=>by
  obtain⟨j,hj⟩:=Kj.1 hk
  obtain⟨y,_,e2⟩:=m2 j _ hj
  simp only[J1]at e2
  obtain⟨b,hb,_⟩:=e2
  exact(Iz.1 hb).1
 have c1:∀{k j},idx k sel=some j→μ2 k=μ' j:=fun hj=>by rw[←hμ2];simp[hj]
 have c2:∀{k},st.own.length≤k→μ2 k=μ' (k-st.own.length+sel.length):=fun {k} hk=>by
  have:idx k sel=none:=by
   cases e:idx k sel with
   |none=>rfl
   |some j=>have:=hsel_lt (J0 (b42 e));omega
  rw[←hμ2];simp[this,hk]
 have c3:∀{k},idx k sel=none→k<st.own.length→μ2 k=μ k:=fun {k} h1 h2=>by
  rw[←hμ2];simp[h1,show¬st.own.length≤k from Dt]
 have jn:∀k j x,f6i sel st.own.length k=some j→μ' k=some x→μ2 j=some x:=by
  intro k j x hj hx
  simp only[f6i,Jh]at hj
  split at hj
  ·rename_i h9
   have:sel[k]?=some j:=by rw[←hj];simp[Iv h9]
   rw[c1 (b8f ka this)]
   exact hx
  ·rename_i qj
   rw[c2 Dt,←hj,show st.own.length+(k-sel.length)-st.own.length+sel.length=k from Dt]
   exact hx
 have bq:∀{k x},μ2 k=some x→(∃j,μ' j=some x∧(idx k sel=some j∨(idx k sel=none∧st.own.length≤k∧j=k-st.own.length+sel.length)))∨(idx k sel=none∧k<st.own.length∧μ k=some x):=by
  intro k x hx
  cases hi:idx k sel with
  |some j=>exact .inl ⟨j,by rw[←c1 hi];exact hx,.inl rfl⟩
  |none=>
   by_cases hk:st.own.length≤k
   ·exact .inl ⟨_,by rw[←c2 hk];exact hx,.inr ⟨rfl,hk,rfl⟩⟩
   ·exact .inr ⟨rfl,Dt,by rw[←c3 hi Dt];exact hx⟩
 have hX:∀{j x b},μ' j=some x→Has x b→b<w'.heap.size∧¬Ac b∧(w.heap.size≤b∨∃k y,k∈sel∧μ k=some y∧Has y b):=by
  intro j x b hj hb
  obtain⟨r1,r2,r3⟩:=gp.rng j x b hj hb
  refine⟨r1,r2,?_⟩
  rcases r3 with r3|⟨i,y,hi,hy⟩
  ·exact .inl r3
  ·obtain⟨k,hk,mq⟩:=hμc hi
   exact .inr ⟨k,y,J0 hk,mq,hy⟩
 have hless:∀b,b<w.heap.size→held A μ2 b→held A μ b:=by
  rintro b hb (hA|⟨k,x,hk,hx⟩)
  ·exact .inl hA
  ·rcases bq hk with⟨j,hj,_⟩|⟨_,_,cm⟩
   ·rcases(hX hj hx).2.2 with h'|⟨k',y,_,hy,mn⟩
    ·omega
    ·exact .inr ⟨k',y,hy,mn⟩
   ·exact .inr ⟨k,x,cm,hx⟩
 have g9:∀b,held A μ2 b→held Ac μ' b:=by
  rintro b (hA|⟨k,x,hk,hx⟩)
  ·exact .inl (.inl hA)
  ·rcases bq hk with⟨j,hj,_⟩|⟨hi,_,cm⟩
   ·exact .inr ⟨j,x,hj,hx⟩
   ·exact .inl (.inr ⟨k,x,c29 hi,cm,hx⟩)
 have c8:Keeps' (r.chg.map fun j=>sel.getD j 0) w w' (held A μ) (held A μ2) μ μ2:=by
  refine⟨bg.size,fun b hb hh=>bg.block b hb (fun⟨j,x,hj,hx⟩=> ?_),hless,fun k x hk hx=> ?_,fun k x hk hx=> ?_⟩
  ·obtain⟨k,_,mq⟩:=hμc hj
   exact hh (.inr ⟨k,x,mq,hx⟩)
  ·have h9:k<st.own.length:=by
    rcases M5 k st.own.length with h'|h'
    ·exact h'
    ·rw[h.fresh k h']at hx;cases hx
   cases hi:idx k sel with
   |none=>rw[c3 hi h9];exact hx
   |some j=>
    have hj:=b42 hi
    have rb:j<sel.length:=(Iz.1 hj).1
    have pd:r.chg.contains j=false:=by
     cases hc:r.chg.contains j with
     |false=>rfl
     |true=>
      exfalso
      apply hk
      simp only[Ja]
      refine⟨j,Ei,?_⟩
      simp[hj]
    rw[c1 hi]
    exact hsame j x Dt pd (by simp[μc,hj,hx])
  ·simp only[Ja]at hk
   obtain⟨j,hj,rfl⟩:=hk
   have vg:=J4.1 wn j hj
   simp only[Km]at vg
   obtain⟨h8,_⟩:=vg
   obtain⟨bl,e,b6⟩:=h.own.blk _ _ hx
   cases Ns:sel[j]? with
   |none=>
    have:lown[j]?=none:=L0 (by have:=List.getElem?_eq_none_iff.1 Ns;omega)
    rw[this]at h8;cases h8
   |some k0=>
    rw[show sel.getD j 0=k0 by simp[Ns]]at e
    obtain⟨y,hy,e2⟩:=m2 j k0 Ns
    rw[e]at e2
    simp only[K7,Jh]at e2
    subst e2
    rw[hy]at h8
    cases bl with
    |row T sz n f c=>
     obtain⟨a',m',e1,_⟩:=b6
     exact .inl ⟨_,_,_,e1⟩
    |fam T Ts n br F=>
     obtain⟨ps,qs,e1,_,_⟩:=b6
     exact .inr ⟨ps,qs,e1⟩
    |cells=>simp[c3e,Blk.ren]at h8
    |map=>simp[c3e,Blk.ren]at h8
    |pmap K k has idx=>
     simp only[Blk.ren]at h8
     split at h8<;>simp[c3e]at h8
    |rowh=>simp[c3e,Blk.ren]at h8
    |pool=>simp[c3e,Blk.ren]at h8
    |dead=>simp[c3e,Blk.ren]at h8
 have Nm:Fr B0 X w w':=by
  refine⟨bg.os,bg.tape,bg.output,bg.drawn,bg.size,fun i hi hx=>bg.block i (Jd hi h.base) (fun⟨j,x,hj,Mr⟩=> ?_)⟩
  obtain⟨k,_,mq⟩:=hμc hj
  rcases(h.own.rng k x i mq Mr).2.2 with h'|h'
  ·omega
  ·exact hx h'
 refine⟨⟨fun k x hk=> ?_,fun k k' x x' b hk cm hx d4=> ?_,fun k x b hk hx=> ?_,fun b hb=>Jd (h.own.bnd b hb) bg.size⟩,Nm,c8,fun k hk=> ?_,fun k x hx=> ?_,b95 g9 jn dn⟩
 ·rcases bq hk with⟨j,hj,Ms⟩|⟨hi,h9,cm⟩
  ·obtain⟨bl,e,b6⟩:=gp.blk j x hj
   refine⟨bl.ren (f6i sel st.own.length),?_,b6.ren g9 jn⟩
   rcases Ms with hi|⟨hi,qj,rfl⟩
   ·have tf:=hsel_lt (J0 (b42 hi))
    unfold c1g
    rw[J6 (by rw[b2u];exact tf),c1j,Iv tf]
    simp[hi,e]
   ·unfold c1g
    rw[Jr (by rw[b2u];exact qj),b2u,Jv,List.getElem?_drop,Nat.add_comm,e]
    rfl
  ·obtain⟨bl,e,b6⟩:=h.own.blk k x cm
   refine⟨bl.kill _,?_,b6.change c8 (fun b hb=> ?_)⟩
   ·unfold c1g
    rw[J6 (by rw[b2u];exact h9),c1j,e]
    simp[hi]
   ·refine bg.block b (h.own.rng k x b cm hb).1 (fun⟨j,y,hj,mn⟩=> ?_)
    obtain⟨k2,df,hkx2⟩:=hμc hj
    have:=h.own.inj k k2 x y b cm hkx2 hb mn
    subst this
    exact c29 hi (J0 df)
 ·rcases bq hk with⟨j,hj,Ms⟩|⟨hi,h9,m7⟩<;>rcases bq cm with⟨j',bh,hj2'⟩|⟨b7,dv,ws⟩
  ·have:=gp.inj j j' x x' b hj bh hx d4
   subst this
   rcases Ms with hi|⟨hi,qj,e⟩<;>rcases hj2' with b7|⟨b7,hge',e'⟩
   ·have a1:=b42 hi
    have a2:=b42 b7
    rw[a1]at a2
    cases a2
    rfl
   ·have:=(Iz.1 (b42 hi)).1;omega
   ·have:=(Iz.1 (b42 b7)).1;omega
   ·omega
  ·exact((hX hj hx).2.1 (.inr ⟨k',x',c29 b7,ws,d4⟩)).elim
  ·exact((hX bh d4).2.1 (.inr ⟨k,x,c29 hi,m7,hx⟩)).elim
  ·exact h.own.inj k k' x x' b m7 ws hx d4
 ·rcases bq hk with⟨j,hj,Ms⟩|⟨hi,h9,m7⟩
  ·obtain⟨r1,r2,r3⟩:=hX hj hx
   refine⟨r1,fun hA=>r2 (.inl hA),?_⟩
   rcases r3 with r3|⟨k',y,_,hy,mn⟩
   ·exact .inl (L3 h.base r3)
   ·exact(h.own.rng k' y b hy mn).2.2
  ·obtain⟨r1,r2,r3⟩:=h.own.rng k x b m7 hx
   exact⟨Jd r1 bg.size,r2,r3⟩
 ·have df:(c1g sel st.own r (r.chg.map fun j=>sel.getD j 0)).length=st.own.length+(r.own.length-sel.length):=by
   unfold c1g
   simp[b2u]
  rw[df]at hk
  rw[c2 Dt]
  exact rd _ Dt
 ·have hx0:=h.anc k x hx
  have n8:=Env.an_ak hx
  refine c8.own k x (fun hk=> ?_) hx0
  simp only[Ja]at hk
  obtain⟨j,hj,rfl⟩:=hk
  have vg:=J4.1 wn j hj
  simp only[Is]at vg
  rw[n8]at vg
  cases vg.2
theorem f4v(hC:b1u E)(h:SD E B0 X A w0 nt st a w μ){o:Oper}{pre:Prop}{s:SV}{own':List Blk}{kills:List Nat}(he:d4h E st.own (opd E st.ρ none) o.op=some (pre,s,own',kills))(hp:pre)(hd:b7m nt o.dst=true)
 {K:Act→World→Prop} {Q:Exit→Act→World→Prop} (hK:∀a' w' μ',SD E B0 X A w0 nt ⟨d2u o.dst none s (d8i kills st.ρ),own'⟩ a' w' μ'→K a' w'):o.wp E.P a w K Q:=
 d3d hC h he hp (fun _ w' μ' q1 q2 q3 q4 q5 q6=>hK _ w' μ' (h.put q1 q2 (b91 q3 h.glo) (h.env.change q3) q4 q5 hd q6))
end
section
variable {w : World} {H H' : Nat → Prop} {μ μ' : Mu}
theorem D.shift(hH:∀b,H' b→H b)(hμ:∀j x,μ j=some x→(∀ps qs,x≠b4h ps qs)→μ' j=some x)
 (hf:∀j ps qs,μ j=some (b4h ps qs)→∃ps' qs',μ' j=some (b4h ps' qs')∧∀(i:Nat) (p:Value),ps[i]?=some p→ps'[i]?=some p) {s:SV} {v:Value} (h:D w H μ s v):D w H' μ' s v:=by
 induction h with
 |int=>exact .int
 |bool=>exact .bool
 |con=>exact .con
 |own h=>exact .own (hμ _ _ h (fun _ _ e=>E4))
 |osl h=>exact .osl (hμ _ _ h (fun _ _ e=>E4))
 |oel h=>exact .oel (hμ _ _ h (fun _ _ e=>E4))
 |omp h=>exact .omp (hμ _ _ h (fun _ _ e=>E4))
 |mp r g hb hm hl hd ih=>exact .mp r g (fun hh=>hb (hH _ hh)) hm hl ih
 |sl a b o m g hm hx hc h8 hl hd ih=>
  exact .sl a b o m g hm hx hc (fun hn=>by
   obtain⟨e,hb,hr⟩:=h8 hn
   exact⟨e,fun hh=>hb (hH _ hh),hr⟩) hl ih
 |rel b o g hi hb h8 hl hd ih=>exact .rel b o g hi (fun hh=>hb (hH _ hh)) h8 hl ih
 |agg vs hl hd ih=>exact .agg vs hl ih
 |tup vs hl hd ih=>exact .tup vs hl ih
 |clo vs hl hd ih=>exact .clo vs hl ih
 |fp h=>exact D.fp_mk (fun ps qs e=>by obtain⟨ps',qs',e1,e2⟩:=hf _ _ _ e;exact⟨ps',qs',e1,fun p=>e2 _ p⟩) h
 |ub h1 h2=>exact .ub h1 h2
 |any=>exact .any
theorem b71.shift(hd:∀s v,D w H μ s v→D w H' μ' s v){x:Value}{T:TypeId}{cs:List SV}(h:b71 w H μ x T cs):b71 w H' μ' x T cs:=by
 obtain⟨b,vs,rfl,hh,hl,h1,hD⟩:=h
 exact⟨b,vs,rfl,hh,hl,h1,fun i s v hs hv=>hd _ _ (hD i s v hs hv)⟩
theorem b9f.shift(hd:∀s v,s.pure=true→D w H μ s v→D w H' μ' s v){x:Value}{T:TypeId}{sz n:Nat}{f:Nat→List SV}{c:Option Nat}(h:b9f w H μ x T sz n f c):b9f w H' μ' x T sz n f c:=by
 obtain⟨a,m,rfl,hn,hm,j7,hl,b9⟩:=h
 refine⟨a,m,rfl,hn,hm,j7,hl,?_⟩
 rcases b9 with h|⟨b,o,vs,c7,rfl,hh,ho,h1,hD⟩
 ·exact .inl h
 ·exact .inr ⟨b,o,vs,c7,rfl,hh,ho,h1,fun i j s v hi hs hv=>hd _ _ (J4.1 (hl i hi).2 s (J0 hs)) (hD i j s v hi hs hv)⟩
theorem FamOK.less(hH:∀b,H' b→H b){T:TypeId}{Ts:List (TypeId×Nat)}{n:Nat}{br:Option Nat}{F:Nat→Mem}{ps:List Value}{qs:List (List Value)}(h:FamOK w H T Ts n br F ps qs):FamOK w H' T Ts n br F ps qs:=
 h.keep ⟨J2 _,fun _ _ _=>rfl,fun b _=>hH b⟩ (fun _ _=>rfl)
theorem b19.shift(hH:∀b,H' b→H b)(hμ:∀j x,μ j=some x→(∀ps qs,x≠b4h ps qs)→μ' j=some x)
 (hf:∀j ps qs,μ j=some (b4h ps qs)→∃ps' qs',μ' j=some (b4h ps' qs')∧∀(i:Nat) (p:Value),ps[i]?=some p→ps'[i]?=some p) {x:Value} {bl:Blk} (h:b19 w H μ x bl):b19 w H' μ' x bl:=by
 have hd:∀s v,D w H μ s v→D w H' μ' s v:=fun s v h=>h.shift hH hμ hf
 cases bl with
 |cells T cs=>exact b71.shift hd h
 |row T sz n f c=>exact b9f.shift (fun s v _=>hd s v) h
 |map K ag has val=>
  obtain⟨r,g,rfl,hm,hl,hD⟩:=h
  exact⟨r,g,rfl,hm,hl,fun q i s v hq hs hv=>hd _ _ (hD q i s v hq hs hv)⟩
 |fam T Ts n br F=>
  obtain⟨ps,qs,rfl,h,hh⟩:=h
  refine⟨ps,qs,rfl,h.less hH,fun i c e=> ?_⟩
  obtain⟨p,e1,e2⟩:=hh i c e
  have hi:i<n:=Gr
  obtain⟨b,us,e3,_⟩:=h.mem i hi
  rw[e1]at e3
  cases e3
  exact⟨_,e1,hμ _ _ e2 (fun _ _ e=>E4)⟩
 |pmap K k has idx=>
  obtain⟨⟨ps,qs,he⟩,r,g,rfl,hm,hD⟩:=h
  obtain⟨ps',qs',dw,_⟩:=hf _ _ _ he
  exact⟨⟨ps',qs',dw⟩,r,g,rfl,hm,fun q hq=>by obtain⟨p,e,h⟩:=hD q hq;exact⟨p,e,hd _ _ h⟩⟩
 |rowh T sz n f c i u=>
  have:=b5f.to id (fun _ _=>rfl) (fun s v _ h=>hd s v h) hd h
  rwa[List.map_id]at this
 |pool T sz n hd al ln ct=>
  obtain⟨qs,rfl,h⟩:=h
  exact D8
 |dead=>exact Ix
end
section
theorem b9j.shift{w:World}{H H':Nat→Prop}{μ μ':Mu}{tmps:Array Value}{ρ:List Entry}(hd:∀s v,D w H μ s v→D w H' μ' s v)(h:b9j w H μ tmps ρ):b9j w H' μ' tmps ρ:=by
 intro t e he
 have:=h t e he
 unfold b0d at this⊢
 split at this
 ·exact hd _ _ this
 ·exact⟨fun hg=>hd _ _ (this.1 hg),this.2⟩
end
def inR(c m k:Nat):Bool:=decide (c≤k)&&decide (k≤c+m)
def SV.ment0(c m:Nat):SV→Bool
 |.own k _|.osl k|.omp k|.oel k _ _ _=>inR c m k
 |.fp _ k _ _=>inR c m k
 |.agg _|.tup _=>true
 |.clo _ cs=> !cs.isEmpty
 |_=>false
def SV.uf0(c m:Nat)(s:SV):SV:=match s with
 |.clo f cs=>if cs.all (fun s=> !s.ment0 c m)then .clo f cs else .any
 |s=>if s.ment0 c m then .any else s
def SV.uf1(c m:Nat):SV→SV
 |.agg cs=>.agg (cs.map (SV.uf0 c m))
 |s=>s.uf0 c m
def SV.uf2(c m:Nat):SV→SV
 |.tup cs=>.tup (cs.map (SV.uf1 c m))
 |s=>s.uf1 c m
def Blk.uf(c m:Nat):Blk→Blk
 |.cells T cs=>.cells T (cs.map (SV.uf0 c m))
 |.pmap K k has idx=>if inR c m k then .dead else .pmap K k has idx
 |.fam T Ts n (some (i,d)) F=>if inR c m d then .dead else .fam T Ts n (some (i,d)) F
 |.rowh T sz n f cp i u=>.rowh T sz n f cp i (u.map (SV.uf0 c m))
 |b=>b
structure Drop (c m:Nat) (H H':Nat→Prop) (μ μ':Mu):Prop where
 less:∀b,H' b→H b
 own:∀j x,inR c m j=false→μ j=some x→(∀ps qs,x≠b4h ps qs)→μ' j=some x
 fam:∀j ps qs,inR c m j=false→μ j=some (b4h ps qs)→∃ps' qs',μ' j=some (b4h ps' qs')∧∀(i:Nat) (p:Value),ps[i]?=some p→ps'[i]?=some p
section
variable {w : World} {H H' : Nat → Prop} {μ μ' : Mu} {c m : Nat}
theorem b8w(hk:Drop c m H H' μ μ'){s:SV}{v:Value}(h:D w H μ s v)(hs:s.ment0 c m=false):D w H' μ' s v:=by
 cases h with
 |own h=>exact .own (hk.own _ _ hs h (fun _ _ e=>E4))
 |osl h=>exact .osl (hk.own _ _ hs h (fun _ _ e=>E4))
 |oel h=>exact .oel (hk.own _ _ hs h (fun _ _ e=>E4))
 |omp h=>exact .omp (hk.own _ _ hs h (fun _ _ e=>E4))
 |fp h=>exact D.fp_mk (fun ps qs e=>by obtain⟨ps',qs',e1,e2⟩:=hk.fam _ _ _ hs e;exact⟨ps',qs',e1,fun p=>e2 _ p⟩) h
 |agg vs hl hd=>simp[SV.ment0]at hs
 |tup vs hl hd=>simp[SV.ment0]at hs
 |clo vs hl hd=>
  simp only[SV.ment0,Bool.not_eq_false',List.isEmpty_iff]at hs
  subst hs
  exact C6
 |int=>exact .int
 |bool=>exact .bool
 |con=>exact .con
 |ub h1 h2=>exact .ub h1 h2
 |any=>exact .any
 |sl a b o m g hm hx hc h8 hl hd=>exact b1w hk.less (.sl a b o m g hm hx hc h8 hl hd) rfl
 |rel b o g hi hb h8 hl hd=>exact b1w hk.less (.rel b o g hi hb h8 hl hd) rfl
 |mp r g hb hm hl hd=>exact b1w hk.less (.mp r g hb hm hl hd) rfl
theorem c4a(hk:Drop c m H H' μ μ'){s:SV}{v:Value}(h:D w H μ s v):D w H' μ' (s.uf0 c m) v:=by
 unfold SV.uf0
 split
 ·split
  ·rename_i bt
   cases h with
   |clo vs hl hd=>
    exact .clo vs hl (fun i s v hs hv=>b8w hk (hd i s v hs hv) (by simpa using J4.1 bt s (J0 hs)))
  ·exact .any
 ·split
  ·exact .any
  ·rename_i hs;exact b8w hk h Fm
theorem f1d(hk:Drop c m H H' μ μ'){s:SV}{v:Value}(h:D w H μ s v):D w H' μ' (s.uf1 c m) v:=by
 unfold SV.uf1
 split
 ·cases h with
  |agg vs hl hd=>
   refine .agg vs E9 (fun i s v hs hv=> ?_)
   simp only[Id]at hs
   obtain⟨s0,bv,rfl⟩:=hs
   exact c4a hk (hd i s0 v bv hv)
 ·exact c4a hk h
theorem f0u(hk:Drop c m H H' μ μ'){s:SV}{v:Value}(h:D w H μ s v):D w H' μ' (s.uf2 c m) v:=by
 unfold SV.uf2
 split
 ·cases h with
  |tup vs hl hd=>
   refine .tup vs E9 (fun i s v hs hv=> ?_)
   simp only[Id]at hs
   obtain⟨s0,bv,rfl⟩:=hs
   exact f1d hk (hd i s0 v bv hv)
 ·exact f1d hk h
theorem b19.drop(hk:Drop c m H H' μ μ'){x:Value}{bl:Blk}(h:b19 w H μ x bl):b19 w H' μ' x (bl.uf c m):=by
 cases bl with
 |cells T cs=>
  obtain⟨b,vs,rfl,hh,hl,h1,hd⟩:=h
  refine⟨b,vs,rfl,hh,E9,h1,fun i s v hs hv=> ?_⟩
  simp only[Id]at hs
  obtain⟨s0,bv,rfl⟩:=hs
  exact c4a hk (hd i s0 v bv hv)
 |row T sz n f c=>exact b9f.shift (fun s v hp hs=>b1w hk.less hs hp) h
 |map K ag has val=>
  obtain⟨r,g,rfl,hm,hl,hD⟩:=h
  exact⟨r,g,rfl,hm,hl,fun q i s v hq hs hv=>b1w hk.less (hD q i s v hq hs hv) (J4.1 (hl q hq).2 s (J0 hs))⟩
 |fam T Ts n br F=>
  obtain⟨ps,qs,rfl,h,hh⟩:=h
  match br,h,hh with
  |none,h,hh=>exact⟨ps,qs,rfl,h.less hk.less,fun i c e=>E4⟩
  |some (i,d),h,hh=>
   simp only[Blk.uf]
   split
   ·exact Ix
   rename_i c6
   refine⟨ps,qs,rfl,h.less hk.less,fun i' c' e=> ?_⟩
   cases e
   obtain⟨p,e1,e2⟩:=hh i d rfl
   have hi:i<n:=Gr
   obtain⟨b,us,e3,_⟩:=h.mem i hi
   rw[e1]at e3
   cases e3
   exact⟨_,e1,hk.own _ _ (by simpa using c6) e2 (fun _ _ e=>E4)⟩
 |pmap K k has idx=>
  simp only[Blk.uf]
  split
  ·exact Ix
  rename_i c6
  obtain⟨⟨ps,qs,he⟩,r,g,rfl,hm,hD⟩:=h
  obtain⟨ps',qs',dw,_⟩:=hk.fam _ _ _ (by simpa using c6) he
  exact⟨⟨ps',qs',dw⟩,r,g,rfl,hm,fun q hq=>by obtain⟨p,e,h⟩:=hD q hq;exact⟨p,e,b8w hk h (by simpa[SV.ment0]using c6)⟩⟩
 |rowh T sz n f cp i u=>exact b5f.to (SV.uf0 c m) (fun _ _=>rfl) (fun s v hp h=>b1w hk.less h hp) (fun s v h=>c4a hk h) h
 |pool T sz n hd al ln ct=>
  obtain⟨qs,rfl,h⟩:=h
  exact⟨qs,rfl,h.keep ⟨J2 _,fun _ _ _=>rfl,fun b _=>hk.less b⟩ (fun _ _=>rfl)⟩
 |dead=>exact Ix
theorem b9j.drop(hk:Drop c m H H' μ μ'){tmps:Array Value}{ρ:List Entry}(h:b9j w H μ tmps ρ):b9j w H' μ' tmps (ρ.map fun e=>{e with sv:=e.sv.uf2 c m}):=by
 intro t e he
 rw[b9d (f:=fun(e:Entry)=>{e with sv:=e.sv.uf2 c m}) (fun _=>rfl),J1]at he
 obtain⟨e0,jv,rfl⟩:=he
 have:=h t e0 jv
 unfold b0d at this⊢
 simp only
 split at this
 ·exact f0u hk this
 ·exact⟨fun hg=>f0u hk (this.1 hg),this.2⟩
end
def nilB:SV→Bool
 |.con (.slice none 0 0)=>true
 |_=>false
def lz:Nat→List SV→List SV
 |_,[]=>[]
 |t,s::r=>match nilB s with
  |true=>.osl t::lz (t+1) r
  |false=>s::lz t r
def g2j:List SV→Nat
 | []=>0
 |s::r=>match nilB s with
  |true=>g2j r+1
  |false=>g2j r
theorem d5w:∀(t:Nat) (l:List SV),(lz t l).length=l.length
 |_,[]=>rfl
 |t,s::r=>by
  simp only[lz]
  split<;>simp[d5w]
theorem f5e:∀(t:Nat) (l:List SV) (i:Nat) (s:SV),(lz t l)[i]?=some s→(∃j,s=.osl j∧t≤j∧j<t+g2j l∧l[i]?=some (.con (.slice none 0 0)))∨l[i]?=some s
 |_,[],i,s,h=>by simp[lz]at h
 |t,x::r,i,s,h=>by
  simp only[lz]at h
  split at h
  ·rename_i hn
   have hx:x=.con (.slice none 0 0):=by
    unfold nilB at hn
    split at hn
    ·rfl
    ·cases hn
   have Nt:g2j (x::r)=g2j r+1:=by simp only[g2j,hn]
   match i with
   |0=>simp at h;exact .inl ⟨t,h.symm,J2 _,Dt,Ef⟩
   |i+1=>
    rcases f5e (t+1) r i s E1 with⟨j,h1,h2,h3,h4⟩|h4
    ·exact .inl ⟨j,h1,Dt,Dt,F5⟩
    ·exact .inr F5
  ·rename_i hn
   have Nt:g2j (x::r)=g2j r:=by simp only[g2j,hn]
   match i with
   |0=>exact .inr h
   |i+1=>
    rcases f5e t r i s E1 with⟨j,h1,h2,h3,h4⟩|h4
    ·exact .inl ⟨j,h1,h2,Dt,F5⟩
    ·exact .inr F5
def c5t(E:Env)(st:St)(T:TypeId)(sm sk sx:SV):Option (Prop×St):=match sm with
 |.omp j0=>match st.own[j0]? with
  |some (.pmap K k has idx)=>match sx with
   |.own j 0=>match st.own[k]?,st.own[j]? with
    |some (.fam Tf Ts n none F),some (.cells Tc cs)=>match E.P.underlying T with
     |some (.map _ _)=>if E.kt T=some K∧Tf=Tc∧g2j cs=Ts.length∧(lz 0 cs).all SV.memc=true∧cs.all SV.pure=true∧j≠k∧j0≠k∧j0≠j∧E.ak k=false∧E.ak j=false then
      (f4p K sk).map fun q=>(True,⟨st.ρ.map fun e=>{e with sv:=e.sv.uf2 j 0},
        (((st.own.map (Blk.uf j 0)).set k (.fam Tf Ts (n+1) none (fun x=>if x=n then⟨lz 0 cs,Ts.map fun _=>(0,fun _=>[])⟩else F x))).set j .dead).set j0 (.pmap K k (b3e has q) (fun p=>if p=q then n else idx p))⟩)
      else none
     |_=>none
    |_,_=>none
   |_=>none
  |_=>none
 |_=>none
section
variable {E : Env} {B0 : Nat} {X A : Nat → Prop} {w0 : World} {nt : Nat} {st : St} {a : Act} {w : World} {μ : Mu}
theorem c80(hE:EnvOK E)(h:SD E B0 X A w0 nt st a w μ){T:TypeId}{m i x:SV}{vm vi vx:Value}{pre:Prop}{st':St}(hm:D w (held A μ) μ m vm)(hi:D w (held A μ) μ i vi)(hx:D w (held A μ) μ x vx)(he:c5t E st T m i x=some (pre,st')):
 ∃w' μ',(Instr.mapUpdate T vm vi vx).run E.P w=.ok () w'∧SD E B0 X A w0 nt st' a w' μ':=by
 unfold c5t at he
 split at he
 rotate_left
 ·cases he
 rename_i j0
 split at he
 rotate_left
 ·cases he
 rename_i K k has idx Nu
 split at he
 rotate_left
 ·cases he
 rename_i j
 split at he
 rotate_left
 ·cases he
 rename_i Tf Ts n F Tc cs hk hj
 split at he
 rotate_left
 ·cases he
 rename_i ky elem hT
 split at he
 rotate_left
 ·cases he
 rename_i hc
 obtain⟨t8,rfl,hnil,su,pq,Mt,wu,hj0j,n8,Q0⟩:=hc
 simp only[Ia]at he
 obtain⟨q,hq,rfl,rfl⟩:=he
 obtain⟨ky',elem',pi,m8⟩:=hE.kt T K t8
 rw[hT]at pi
 cases pi
 obtain⟨rfl,jz⟩:=b97 hq hi
 cases hm with
 |omp hμ0=>
 cases hx with
 |own hμj=>
 rename_i b
 obtain⟨bl,e,b6⟩:=h.own.blk _ _ hμ0
 rw[Nu]at e
 cases e
 obtain⟨⟨ps,qs,hμk⟩,r,g,e1,ph,hD⟩:=b6
 cases e1
 obtain⟨bl,e,b6⟩:=h.own.blk _ _ hμk
 rw[hk]at e
 cases e
 obtain⟨ps',qs',e1,cf,_⟩:=b6
 obtain⟨rfl,rfl⟩:=b98 e1
 simp only[Option.map_none]at cf
 obtain⟨bl,e,b6⟩:=h.own.blk _ _ hμj
 rw[hj]at e
 cases e
 obtain⟨b',vs,e1,hh,hl,bu,hd⟩:=b6
 cases e1
 have hv:(Value.pointer (some ⟨b,0,none⟩))=mkV false [.pointer (some ⟨b,0,none⟩)]:=rfl
 obtain⟨o,bi,td⟩:=c1y (w:=w) hv hT m8 ph jz
 have h9:=ph.lt
 have pt:k<st.own.length:=(Iz.1 hk).1
 have re:j<st.own.length:=(Iz.1 hj).1
 have hj0lt:j0<st.own.length:=(Iz.1 Nu).1
 let new:List Value:=.pointer (some ⟨b,0,none⟩)::Ts.map fun _=>Value.slice none 0 0
 let μ':Mu:=fun y=>if y=k then some (b4h (ps++[.pointer (some ⟨b,0,none⟩)]) (qs++[new]))else if y=j then none else μ y
 have m1:μ' k=some (b4h (ps++[.pointer (some ⟨b,0,none⟩)]) (qs++[new])):=by simp[μ']
 have m2:μ' j=none:=by simp[μ',Mt]
 have m3:∀y,y≠k→y≠j→μ' y=μ y:=fun y h1 h2=>by simp[μ',h1,h2]
 have bq:∀{y x},μ' y=some x→(y=k∧x=b4h (ps++[.pointer (some ⟨b,0,none⟩)]) (qs++[new]))∨(y≠k∧y≠j∧μ y=some x):=by
  intro y x hy
  by_cases e1:y=k
  ·exact D9
  ·by_cases e2:y=j
   ·subst e2;rw[m2]at hy;cases hy
   ·rw[m3 y e1 e2]at hy;exact .inr ⟨e1,e2,hy⟩
 have jp:∀(jj:Nat) (u:Value) (c:Nat),new[jj]?=some u→b2t u=some c→jj=0∧c=b:=by
  intro jj u c h1 h2
  match jj with
  |0=>simp[new]at h1;subst h1;simp[b2t]at h2;exact⟨rfl,h2.symm⟩
  |jj+1=>
   simp only[new,Ks,Id]at h1
   obtain⟨_,_,rfl⟩:=h1
   rw[b4z]at h2;cases h2
 have ce:∀{i' j' us2 u c},qs[i']?=some us2→us2[j']?=some u→b2t u=some c→Has (b4h ps qs) c:=fun g1 g2 g3=>b52.2 ⟨_,_,J0 g1,J0 g2,g3⟩
 have hold:∀{y x c},μ' y=some x→Has x c→(y=k∧Has (b4h ps qs) c)∨(y=k∧c=b)∨(y≠k∧y≠j∧μ y=some x):=by
  intro y x c hy hx
  rcases bq hy with⟨rfl,rfl⟩|h3
  ·obtain⟨us2,u,g1,g2,g3⟩:=b52.1 hx
   rcases Jf.1 g1 with g1|g1
   ·exact .inl ⟨rfl,b52.2 ⟨us2,u,g1,g2,g3⟩⟩
   ·simp only[Jk]at g1
    subst g1
    obtain⟨jj,Q1⟩:=Kj.1 g2
    exact .inr (.inl ⟨rfl,(jp jj u c Q1 g3).2⟩)
  ·exact .inr (.inr h3)
 have th:Has (.pointer (some ⟨b,0,none⟩)) b:=d6m.2 rfl
 have bp:∀c,held A μ' c→held A μ c:=by
  rintro c (hc|⟨y,x,hy,hx⟩)
  ·exact .inl hc
  ·rcases hold hy hx with⟨_,h1⟩|⟨_,rfl⟩|⟨_,_,h3⟩
   ·exact .inr ⟨k,_,hμk,h1⟩
   ·exact .inr ⟨j,_,hμj,th⟩
   ·exact .inr ⟨y,x,h3,hx⟩
 have Mw:Has (.map (some r)) r:=g1i.2 rfl
 have c8:Keeps w (putObj w r o) (held A μ) (held A μ) μ μ:=⟨Fn,fun c _ hc=>b26 (fun e=>hc (by subst e;exact .inr ⟨j0,_,hμ0,Mw⟩)),fun _ _ h=>h,fun _ _ h=>h⟩
 have f8:Drop j 0 (held A μ) (held A μ') μ μ':=by
  refine⟨bp,fun y x hy hx Pp=> ?_,fun y ps2 qs2 hy hx=> ?_⟩
  ·have e1:y≠j:=fun e=>by subst e;simp[inR]at hy
   have e2:y≠k:=fun e=>Hr
   rw[m3 y e2 e1];exact hx
  ·have e1:y≠j:=fun e=>by subst e;simp[inR]at hy
   by_cases e2:y=k
   ·subst e2
    rw[hμk]at hx
    obtain⟨rfl,rfl⟩:=b98 (Jp hx)
    exact⟨_,_,m1,fun i p hp=>by rw[J6 (Iz.1 hp).1];exact hp⟩
   ·exact⟨ps2,qs2,(m3 y e2 e1).trans hx,fun _ _ h=>h⟩
 have hB:=(h.own.rng j0 _ r hμ0 Mw).2.2
 have Nv:∀y x,y≠j0→μ y=some x→∀c,Has x c→(putObj w r o).heap[c]?=w.heap[c]?:=fun y x hy hx c hc=>b26 (fun e=>by
  subst e
  exact hy (h.own.inj y j0 x _ _ hx hμ0 hc Mw))
 have hd2:∀s v,s.pure=true→D w (held A μ) μ s v→D (putObj w r o) (held A μ') μ' s v:=fun s v hp hs=>b1w bp (hs.keep c8) hp
 refine⟨_,μ',bi,⟨fun y x hy=> ?_,fun y y' x x' c hy gm hx d4=> ?_,fun y x c hy hx=> ?_,fun c hc=>by rw[b3x];exact h.own.bnd c hc⟩,h.fr.trans ⟨rfl,rfl,rfl,fun _=>J2 _,Fn,fun i hi hX=>b26 (fun e=>by subst e;rcases hB with hb|hb;omega;exact hX hb)⟩,
  by rw[b3x];exact h.base,fun g s hg=>⟨(h.glo g s hg).1,hd2 _ _ (h.glo g s hg).1 (h.glo g s hg).2⟩,h.dfr,h.size,(h.env.keep c8).drop f8,fun y hy=> ?_,fun y x hx=> ?_⟩
 ·rcases bq hy with⟨rfl,rfl⟩|⟨wv,hyj,gm⟩
  ·refine⟨.fam Tf Ts (n+1) none (fun x=>if x=n then⟨lz 0 cs,Ts.map fun _=>(0,fun _=>[])⟩else F x),by rw[Jb wu,Jb Mt,K9 (by simpa using pt)],_,_,rfl,⟨by simp[cf.pl],by simp[cf.ql],fun i1 j1 i2 j2 us1 us2 u1 u2 c g1 g2 g3 g4 g5 g6=> ?_,fun i1 cw=> ?_⟩,fun i c e=>E4⟩
   ·have at':∀{i us},(qs++[new])[i]?=some us→qs[i]?=some us∧i<qs.length∨i=qs.length∧us=new:=by
     intro i us hi
     by_cases h9:i<qs.length
     ·rw[J6 h9]at hi;exact .inl ⟨hi,h9⟩
     ·rw[Jr Dt]at hi
      match be:i-qs.length,hi with
      |0,hi=>simp at hi;exact .inr ⟨Dt,hi.symm⟩
      |z+1,hi=>simp at hi
    rcases at' g1 with⟨k1,_⟩|⟨e1,rfl⟩<;>rcases at' g4 with⟨k4,_⟩|⟨e2,rfl⟩
    ·exact cf.nd i1 j1 i2 j2 us1 us2 u1 u2 c k1 g2 g3 k4 g5 g6
    ·have:=(jp j2 u2 c g5 g6).2
     subst this
     exact absurd (h.own.inj y j _ _ c hμk hμj (ce k1 g2 g3) th) (Ne.symm Mt)
    ·have:=(jp j1 u1 c g2 g3).2
     subst this
     exact absurd (h.own.inj y j _ _ c hμk hμj (ce k4 g5 g6) th) (Ne.symm Mt)
    ·exact⟨Dt,(jp j1 u1 c g2 g3).1.trans (jp j2 u2 c g5 g6).1.symm⟩
   ·by_cases dv:i1<n
    ·obtain⟨b1,us1,g1,g2,g3⟩:=cf.mem i1 dv
     refine⟨b1,us1,by rw[J6 (by rw[cf.pl];exact dv)];exact g1,by rw[J6 (by rw[cf.ql];exact dv)];exact g2,.inr ⟨Dv,?_⟩⟩
     rcases g3 with⟨g3,_⟩|⟨_,us3,e3,g4⟩
     ·cases g3
     ·refine⟨us3,e3,?_⟩
      rw[Iy Dt]
      refine g4.keep ⟨Fn,fun c _ hc=>b26 (fun e=>hc (by subst e;exact .inr ⟨j0,_,hμ0,Mw⟩)),fun c _=>bp c⟩ (fun u c hu zy=>Nv y _ (Ne.symm wu) hμk c (b52.2 ⟨us1,u,J0 g2,?_,zy⟩))
      subst e3
      rcases hu with rfl|hu
      ·simp
      ·simp[hu]
    ·have:i1=n:=Dt
     subst this
     refine⟨b,new,I6,by rw[Jr (by rw[cf.ql];exact J2 _),cf.ql,Lv];rfl,.inr ⟨Dv,_,rfl,?_⟩⟩
     rw[Iw rfl]
     refine⟨⟨b,vs,rfl,(Nv j _ (Ne.symm hj0j) hμj b th).trans hh,by rw[hl,d5w],bu,fun i s v hs hv=> ?_⟩,su,Dv,Dv,fun t tt rr u h1 h2 h3=> ?_⟩
     ·rcases f5e 0 cs i s hs with⟨jj,rfl,_,Q1,dx⟩|dx
      ·have:=hd i _ v dx hv
       cases this
       have hjj':jj<Ts.length:=by rw[←hnil];omega
       exact .osl (n:=0) (m:=0) (a:=none) (by simp[loc,Iv hjj'])
      ·exact b1w bp ((hd i s v dx hv).keep c8) (J4.1 pq s (J0 dx))
     ·simp only[Id]at h2 h3
      obtain⟨_,_,rfl⟩:=h2
      obtain⟨_,_,rfl⟩:=h3
      exact⟨none,0,rfl,J2 _,F3,.inl rfl,fun i hi=>absurd hi (Je _),.inl rfl⟩
  ·obtain⟨bl,e,hb⟩:=h.own.blk y x gm
   have hylt:y<st.own.length:=(Iz.1 e).1
   by_cases ey:y=j0
   ·subst ey
    rw[Nu]at e
    cases e
    rw[hμ0]at gm
    cases gm
    refine⟨.pmap K k (b3e has q) (fun p=>if p=q then n else idx p),by rw[K9 (by simpa using hylt)],⟨_,_,m1⟩,r,_,rfl,td,fun p hp=> ?_⟩
    by_cases ep:p=q
    ·refine⟨.pointer (some ⟨b,0,none⟩),by simp[ep],?_⟩
     simp only[ep,K5]
     refine .fp ?_
     simp only[K5]
     exact⟨_,_,b,m1,I6,rfl⟩
    ·have sf:has p=true:=Gt
     obtain⟨v,e,dm⟩:=hD p sf
     refine⟨v,by simp[ep,e],?_⟩
     simp only[ep,if_false]
     exact b8w f8 (dm.keep c8) (by simp[SV.ment0,inR];omega)
   ·refine⟨bl.uf j 0,by rw[Jb (Ne.symm ey),Jb (Ne.symm hyj),Jb (Ne.symm wv),Jv,e];rfl,?_⟩
    exact(hb.keep c8 (fun c hc=>Nv y x ey gm c hc)).drop f8
 ·rcases hold hy hx with⟨e1,g1⟩|⟨e1,g1⟩|⟨e1,e1',g1⟩<;>rcases hold gm d4 with⟨e2,g2⟩|⟨e2,g2⟩|⟨e2,e2',g2⟩
  ·omega
  ·omega
  ·exact absurd (h.own.inj y' k _ _ c g2 hμk d4 g1) e2
  ·omega
  ·omega
  ·subst g1;exact absurd (h.own.inj y' j _ _ c g2 hμj d4 th) e2'
  ·exact absurd (h.own.inj y k _ _ c g1 hμk hx g2) e1
  ·subst g2;exact absurd (h.own.inj y j _ _ c g1 hμj hx th) e1'
  ·exact h.own.inj y y' x x' c g1 g2 hx d4
 ·rw[b3x]
  rcases hold hy hx with⟨e1,g1⟩|⟨e1,g1⟩|⟨e1,e1',g1⟩
  ·exact h.own.rng k _ c hμk g1
  ·subst g1;exact h.own.rng j _ c hμj th
  ·exact h.own.rng y x c g1 hx
 ·simp only[Lj,Js]at hy
  rw[m3 y Dt Dt]
  exact h.fresh y hy
 ·have e1:y≠k:=fun e=>Gu
  have e2:y≠j:=fun e=>by subst e;rw[Env.an_ak hx]at Q0;cases Q0
  rw[m3 y e1 e2];exact h.anc y x hx
end
def SV.fz0(s:SV)(k:Nat)(t:SV):SV:=match s with
 |.osl j=>if j=k then t else .osl j
 |s=>s.kill0 [k]
def SV.fz1(s:SV)(k:Nat)(t:SV):SV:=match s with
 |.agg cs=>.agg (cs.map fun s=>s.fz0 k t)
 |s=>s.fz0 k t
def SV.fz2(s:SV)(k:Nat)(t:SV):SV:=match s with
 |.tup vs=>.tup (vs.map fun s=>s.fz1 k t)
 |s=>s.fz1 k t
def Blk.fz(b:Blk)(k:Nat)(t:SV):Blk:=match b with
 |.cells T cs=>.cells T (cs.map fun s=>s.fz0 k t)
 |.pmap K j has idx=>if j=k then .dead else .pmap K j has idx
 |.rowh T sz n f c i u=>.rowh T sz n f c i (u.map fun s=>s.fz0 k t)
 |b=>b
def Mu.drop(k:Nat)(μ:Mu):Mu:=fun j=>if j=k then none else μ j
section
variable {w : World} {H H' : Nat → Prop} {μ μ' : Mu} {k : Nat} {t : SV}
theorem b9a(hk:Keeps' [k] w w H H' μ μ')(ht:∀v,μ k=some v→D w H' μ' t v){s:SV}{v:Value}(h:D w H μ s v):D w H' μ' (s.fz0 k t) v:=by
 unfold SV.fz0
 split
 ·rename_i j
  split
  ·rename_i e
   subst e
   cases h with
   |osl h=>exact ht _ h
  ·rename_i e
   cases h with
   |osl h=>exact .osl (hk.own _ _ Er h)
 ·exact b4c hk h
theorem c8i(hk:Keeps' [k] w w H H' μ μ')(ht:∀v,μ k=some v→D w H' μ' t v){s:SV}{v:Value}(h:D w H μ s v):D w H' μ' (s.fz1 k t) v:=by
 unfold SV.fz1
 split
 ·cases h with
  |agg vs hl hd=>
   refine .agg vs E9 (fun i s v hs hv=> ?_)
   simp only[Id]at hs
   obtain⟨s0,bv,rfl⟩:=hs
   exact b9a hk ht (hd i s0 v bv hv)
 ·exact b9a hk ht h
theorem c8h(hk:Keeps' [k] w w H H' μ μ')(ht:∀v,μ k=some v→D w H' μ' t v){s:SV}{v:Value}(h:D w H μ s v):D w H' μ' (s.fz2 k t) v:=by
 unfold SV.fz2
 split
 ·cases h with
  |tup vs hl hd=>
   refine .tup vs E9 (fun i s v hs hv=> ?_)
   simp only[Id]at hs
   obtain⟨s0,bv,rfl⟩:=hs
   exact c8i hk ht (hd i s0 v bv hv)
 ·exact c8i hk ht h
theorem b19.fz(hk:Keeps' [k] w w H H' μ μ')(ht:∀v,μ k=some v→D w H' μ' t v){x:Value}{bl:Blk}(h:b19 w H μ x bl):b19 w H' μ' x (bl.fz k t):=by
 cases bl with
 |cells T cs=>
  obtain⟨b,vs,rfl,hh,hl,h1,hd⟩:=h
  refine⟨b,vs,rfl,hh,E9,h1,fun i s v hs hv=> ?_⟩
  simp only[Id]at hs
  obtain⟨s0,bv,rfl⟩:=hs
  exact b9a hk ht (hd i s0 v bv hv)
 |row T sz n f c=>
  have:=b19.change hk (fun _ _=>rfl) h
  exact this
 |map K ag has val=>
  have:=b19.change hk (fun _ _=>rfl) h
  exact this
 |fam T Ts n br F=>
  have:=b19.change hk (fun _ _=>rfl) h
  exact this
 |pmap K k' has idx=>
  simp only[Blk.fz]
  split
  ·exact Ix
  rename_i bb
  obtain⟨⟨ps,qs,he⟩,r,g,rfl,hm,hd⟩:=h
  refine⟨⟨ps,qs,hk.own _ _ (by simpa using bb) he⟩,r,g,rfl,hm,fun q hq=> ?_⟩
  obtain⟨p,e,h⟩:=hd q hq
  exact⟨p,e,c1b hk (by simpa using bb) h⟩
 |rowh T sz n f c i u=>exact b5f.to (fun s=>s.fz0 k t) (fun _ _=>rfl) (fun s v hp h=>b0k hk h hp) (fun s v h=>b9a hk ht h) h
 |pool T sz n hd al ln ct=>
  have:=b19.change hk (fun _ _=>rfl) h
  exact this
 |dead=>exact Ix
end
theorem g7y{w:World}{H H':Nat→Prop}{μ μ':Mu}{x:Value}{T:TypeId}{sz n:Nat}{f:Nat→List SV}{c:Option Nat}(hH:∀b,H' b→H b)(hx:∀b,Has x b→¬H' b)(h:b19 w H μ x (.row T sz n f c)):D w H' μ' (.sl sz n f c) x:=by
 obtain⟨a,m,rfl,hn,hm,hc,hl,b9⟩:=h
 rcases b9 with rfl|⟨b,o,vs,c7,rfl,hh,ho,h1,hD⟩
 ·exact Cj
 ·have ta:¬H' b:=hx b (b1p c7)
  have c6:∀i j,i<n→j<sz→o+i*sz+j<vs.length:=fun i j hi hj=>by
   have:=b59 hi hj
   have:n*sz≤m*sz:=Jt _ hn
   omega
  refine .sl _ b o m (fun i j=>vs.getD (o+i*sz+j) undef) hn hm hc (fun _=>⟨rfl,ta,b29 hh,fun i j hi hj=> ?_⟩) hl (fun i j s hi hs=> ?_)
  ·have:=c6 i j hi hj
   rw[b62 hh,Iv this]
   simp only[Im,Iv this]
   exact Ck
  ·have hj:j<sz:=G2
   have:=c6 i j hi hj
   simp only[Im,Iv this]
   exact b0i hH (hD i j s _ hi hs (Iv this)) (J4.1 (hl i hi).2 s (J0 hs))
def St.fz(E:Env)(k:Nat)(st:St):St:=match st.own[k]? with
 |some (.row _ sz n f c)=>if E.ak k then st else⟨st.ρ.map fun e=>{e with sv:=e.sv.fz2 k (.sl sz n f c)},st.own.map fun b=>b.fz k (.sl sz n f c)⟩
 |_=>st
section
variable {E : Env} {B0 : Nat} {X A : Nat → Prop} {w0 : World} {nt : Nat} {st : St} {a : Act} {w : World} {μ : Mu}
theorem f0x(h:SD E B0 X A w0 nt st a w μ)(k:Nat):∃μ',SD E B0 X A w0 nt (st.fz E k) a w μ':=by
 unfold St.fz
 split
 rotate_left
 ·exact⟨μ,h⟩
 rename_i T sz n f c hk
 split
 ·exact⟨μ,h⟩
 rename_i gq
 have bj:∀b,held A (μ.drop k) b→held A μ b:=by
  intro b hb
  rcases hb with hb|⟨j,x,hj,hx⟩
  ·exact .inl hb
  ·unfold Mu.drop at hj
   split at hj
   ·cases hj
   ·exact .inr ⟨j,x,hj,hx⟩
 have hK:Keeps' [k] w w (held A μ) (held A (μ.drop k)) μ (μ.drop k):=⟨J2 _,fun _ _ _=>rfl,fun b _ hb=>bj b hb,fun j x hj hx=>by simp only[Jk]at hj;simp[Mu.drop,hj,hx],fun j x hj hb=>by
  simp only[Jk]at hj
  subst hj
  obtain⟨bl,e,b6⟩:=h.own.blk _ _ hb
  rw[hk]at e
  cases e
  obtain⟨a,m,e1,_⟩:=b6
  exact .inl ⟨_,_,_,e1⟩⟩
 have ht:∀v,μ k=some v→D w (held A (μ.drop k)) (μ.drop k) (.sl sz n f c) v:=by
  intro v hv
  obtain⟨bl,e,b6⟩:=h.own.blk _ _ hv
  rw[hk]at e
  cases e
  refine g7y bj (fun b hb hh=> ?_) b6
  rcases hh with hh|⟨j,x,hj,hx⟩
  ·exact(h.own.rng _ _ b hv hb).2.1 hh
  ·unfold Mu.drop at hj
   split at hj
   ·cases hj
   ·rename_i bb
    exact bb (h.own.inj j k x v b hj hv hx hb)
 have hd:∀{j x},μ.drop k j=some x→μ j=some x:=by
  intro j x hj
  unfold Mu.drop at hj
  split at hj
  ·cases hj
  ·exact hj
 refine⟨μ.drop k,⟨fun j x hj=> ?_,fun j j' x x' b hj bh=>h.own.inj j j' x x' b (hd hj) (hd bh),fun j x b hj=>h.own.rng j x b (hd hj),h.own.bnd⟩,h.fr,h.base,fun g s hg=>⟨(h.glo g s hg).1,b0i bj (h.glo g s hg).2 (h.glo g s hg).1⟩,h.dfr,h.size,fun t e he=> ?_,fun j hj=> ?_,fun j x hx=> ?_⟩
 ·obtain⟨bl,e,b6⟩:=h.own.blk j x (hd hj)
  exact⟨bl.fz k (.sl sz n f c),by simp[e],b6.fz hK ht⟩
 ·rw[b9d (f:=fun(e:Entry)=>{e with sv:=e.sv.fz2 k (.sl sz n f c)}) (fun _=>rfl),J1]at he
  obtain⟨e0,jv,rfl⟩:=he
  have:=h.env t e0 jv
  unfold b0d at this⊢
  simp only
  split at this
  ·exact c8h hK ht this
  ·exact⟨fun hg=>c8h hK ht (this.1 hg),this.2⟩
 ·have:=h.fresh j Ek
  simp[Mu.drop,this]
 ·have:=h.anc j x hx
  unfold Mu.drop
  rw[Iy (fun e=>gq (by rw[←e];exact Env.an_ak hx))]
  exact this
end
def j1x(E:Env)(own:List Blk)(ρ:Operand→Option SV)(op:Op):Option (Prop×SV×List Blk):=
 match op with
 |.call c=>match c.callee,c.args.toList with
  |.value f,x::rest=>match ρ f,ρ x with
   |some (.clo fid []),some (.osl k)=>match E.X fid,own[k]? with
    |some e,some (.row T sz n g cp)=>(rest.mapM ρ).bind fun xs=>if xs.any SV.hasOsl then none else(xs.mapM (SV.roA own)).bind fun ys=>(e T sz n g ys).map fun r=>(r.1,if r.2.2 then .osl k else .tup [],own.set k (.row T sz n r.2.1 cp))
    |_,_=>none
   |_,_=>none
  |_,_=>none
 |_=>none
def d7t(k j:Nat):Option Nat:=if j=k then none else some j
def f5i(E:Env)(own:List Blk)(ρ:Operand→Option SV)(op:Op):Option (Prop×SV×List Blk):=
 match op with
 |.call c=>match c.callee,c.args.toList with
  |.value f,x::rest=>match ρ f,ρ x with
   |some (.clo fid []),some (.osl k)=>match E.X fid,own[k]? with
    |some e,some (.row T sz n g cp)=>(rest.mapM ρ).bind fun xs=>((xs.map (SV.ren1 (d7t k))).mapM (SV.roA (own.map (Blk.ren (d7t k))))).bind fun ys=>
     (e T sz n g ys).map fun r=>(r.1∧∀i,i<n→(r.2.1 i).all SV.flat0=true,if r.2.2 then .osl k else .tup [],own.set k (.row T sz n r.2.1 cp))
    |_,_=>none
   |_,_=>none
  |_,_=>none
 |_=>none
def g99(E:Env)(st:St)(o:Oper):Option (Prop×St):=match o.op with
 |.mapUpdate T m k x|.insert T m k x=>match opd E st.ρ none m with
  |some sm=>match opd E st.ρ none k with
   |some sk=>match opd E st.ρ none x with
    |some sx=>match o.dst with
     |none=>c5t E st T sm sk sx
     |some _=>none
    |none=>none
   |none=>none
  |none=>none
 |_=>none
def d7c(E:Env)(own:List Blk)(ρ:Operand→Option SV)(op:Op):Option (Prop×Nat×List Blk):=match op with
 |.slice T x none (some hi) (some mx)=>match ρ x,ρ hi,ρ mx with
  |some (.osl k),some (.int _ h),some (.int _ m)=>match own[k]? with
   |some (.row e' sz n f _)=>match b2s E.P T with
    |some e=>if b10 E.P e=some sz∧E.ak k=false then some (0≤h∧h≤m∧m≤n,k,(own.map (Blk.kill [k])).set k (.row e' sz h.toNat f (some m.toNat)))else none
    |none=>none
   |_=>none
  |_,_,_=>none
 |_=>none
def g1p(E:Env)(ρ:Operand→Option SV)(op:Op):Option (Prop×Blk):=match op with
 |.call {callee:=.builtin .append,args:=⟨[x,y]⟩,argTypes:=⟨[T,U]⟩}=>match b2s E.P T,E.P.underlying U with
  |some e,some (.int _)=>match ρ x,ρ y with
   |some (.sl _ n _ (some c)),some (.int .i64 m)=>match E.P.info? e,b7p E.P e with
    |some inf,some z=>if z.length=inf.size∧0<inf.size∧z.all SV.isCell=true∧z.all SV.pure=true then
     some ((n=0∧c=0)∧0<m∧m≤9223372036854775807∧m.toNat*inf.bytes≤140737488355328,.row e inf.size m.toNat (fun _=>z) none)else none
    |_,_=>none
   |_,_=>none
  |_,_=>none
 |_=>none
def f8t(E:Env)(nt:Nat)(ops:Array Oper)(st:St)(o:Oper):Option (Prop×St):=
 match o.guard with
 |some _=>g4m E nt ops st o
 |none=>match j1x E st.own (opd E st.ρ none) o.op with
  |some r=>if b7m nt o.dst then some (r.1,⟨d2u o.dst none r.2.1 st.ρ,r.2.2⟩)else none
  |none=>match f5i E st.own (opd E st.ρ none) o.op with
   |some r=>if b7m nt o.dst then some (r.1,⟨d2u o.dst none r.2.1 st.ρ,r.2.2⟩)else none
   |none=>match d0w E st.own (opd E st.ρ none) o.op with
    |some r=>if b7m nt o.dst then some (r.1,⟨d2u o.dst none r.2.1 (d8i r.2.2.2 st.ρ),r.2.2.1⟩)else none
    |none=>match g99 E st o with
     |some r=>some r
     |none=>match d7c E st.own (opd E st.ρ none) o.op with
      |some r=>if b7m nt o.dst then some (r.1,⟨d2u o.dst none (.osl r.2.1) (d8i [r.2.1] st.ρ),r.2.2⟩)else none
      |none=>match g1p E (opd E st.ρ none) o.op with
       |some r=>if b7m nt o.dst then some (r.1,⟨d2u o.dst none (.osl st.own.length) st.ρ,st.own++[r.2]⟩)else none
       |none=>g4m E nt ops st o
def g81:SV→List Nat
 |.osl k=>[k]
 |.agg cs=>cs.filterMap fun s=>match s with|.osl k=>some k|_=>none
 |_=>[]
def f93(E:Env)(o:Oper)(st:St):List Operand→St
 | []=>st
 |.tmp t::r=>f93 E o (match b4a t st.ρ with
  |some e=>(g81 e.sv).foldl (fun st k=>st.fz E k) st
  |none=>st) r
 |_::r=>f93 E o st r
def g0s(E:Env)(nt:Nat)(ops:Array Oper)(st:St)(o:Oper):Option (Prop×St):=
 match o.dst with
 |none=>f8t E nt ops st o
 |some d=>match E.fz d with
  |true=>f8t E nt ops (f93 E o st o.op.operands.toList) o
  |false=>f8t E nt ops st o
section
variable {E : Env} {B0 : Nat} {X A : Nat → Prop} {w0 : World} {nt : Nat} {st : St} {a : Act} {w : World} {μ : Mu}
theorem f7t(ks:List Nat):∀{st:St} {μ:Mu},SD E B0 X A w0 nt st a w μ→∃μ',SD E B0 X A w0 nt (ks.foldl (fun st k=>st.fz E k) st) a w μ':=by
 induction ks with
 |nil=>intro st μ h;exact⟨μ,h⟩
 |cons k ks ih=>intro st μ h;obtain⟨μ',h'⟩:=f0x h k;exact ih h'
theorem d7r(o:Oper):∀(l:List Operand) {st:St} {μ:Mu},SD E B0 X A w0 nt st a w μ→∃μ',SD E B0 X A w0 nt (f93 E o st l) a w μ':=by
 intro l
 induction l with
 |nil=>intro st μ h;exact⟨μ,h⟩
 |cons x l ih=>
  intro st μ h
  cases x with
  |tmp t=>
   simp only[f93]
   split
   ·obtain⟨μ',h'⟩:=f7t (g81 _) h
    exact ih h'
   ·exact ih h
  |const _=>exact ih h
  |global _=>exact ih h
  |func _=>exact ih h
end
theorem b19.row_mono{w:World}{H H':Nat→Prop}{μ μ':Mu}{x:Value}{T:TypeId}{sz n:Nat}{f:Nat→List SV}{c:Option Nat}(hH:∀b,H' b→H b)(h:b19 w H μ x (.row T sz n f c)):b19 w H' μ' x (.row T sz n f c):=by
 obtain⟨a,m,rfl,hn,hm,hc,hl,h⟩:=h
 refine⟨a,m,rfl,hn,hm,hc,hl,?_⟩
 rcases h with h|⟨b,o,vs,c7,rfl,hh,ho,h1,hd⟩
 ·exact .inl h
 ·exact .inr ⟨b,o,vs,c7,rfl,hh,ho,h1,fun i j s v hi hs hv=>b0i hH (hd i j s v hi hs hv) (J4.1 (hl i hi).2 s (J0 hs))⟩
theorem g5c{B0:Nat}{X A:Nat→Prop}{w:World}{μ:Mu}{own:List Blk}{xs ys:List SV}{vs:List Value}(hO:Own B0 X A w μ own)(hD:DL w (held A μ) μ xs vs)(pa:xs.mapM (SV.roA own)=some ys)(gh:xs.any SV.hasOsl=false){H':Nat→Prop}(hH:∀b,H' b→held A μ b):DL w H' b0a ys vs:=by
 obtain⟨l1,l2⟩:=b38 pa
 refine⟨by rw[hD.1,l1],fun i s v hs hv=> ?_⟩
 have h9:i<xs.length:=G7
 obtain⟨y,hy,e⟩:=l2 i _ (Iv h9)
 rw[hs]at hy
 cases hy
 refine b7z hO (fun _ _ h=>h) hH (hD.2 i _ v (Iv h9) hv) e (fun h=> ?_)
 have:xs.any SV.hasOsl=true:=Hq
 rw[gh]at this
 cases this
section
variable {E : Env} {B0 : Nat} {X A : Nat → Prop} {w0 : World} {nt : Nat} {st : St} {a : Act} {w : World} {μ : Mu}
theorem f75(hC:b1u E)(h:SD E B0 X A w0 nt st a w μ){o:Oper}{pre:Prop}{s:SV}{own':List Blk}(he:j1x E st.own (opd E st.ρ none) o.op=some (pre,s,own'))(hp:pre):
 ∃f vals,(execOp a.eval o).run E.P w=.ok (.enter f vals) w∧own'.length=st.own.length∧Calls E.P f vals w fun e w'=>∃v,e=.returned v∧D w' (held A μ) μ s v∧After B0 X A w w' μ μ own':=by
 unfold j1x at he
 split at he
 rotate_left
 ·cases he
 rename_i c cn
 split at he
 rotate_left
 ·cases he
 rename_i f x rest hf f9
 split at he
 rotate_left
 ·cases he
 rename_i fid k hρf hρx
 split at he
 rotate_left
 ·cases he
 rename_i e T sz n g cp hX hk
 simp only[J3]at he
 obtain⟨xs,gn,he⟩:=he
 split at he
 ·cases he
 rename_i gh
 simp only[J3,Ia]at he
 obtain⟨ys,pa,⟨p,g',r⟩,hr,rfl,rfl,rfl⟩:=he
 have hρ:=h.opds (g:=none) (fun q b e=>E4)
 obtain⟨⟨fn,h1,h2,h3⟩,hS⟩:=hC.2.1 fid e hX
 have fe:=hρ _ _ hρf
 generalize rc:a.eval f=vf at fe
 have jy:=hρ _ _ hρx
 generalize ti:a.eval x=v at jy
 cases fe with
 |clo cvs d9 n9=>
 have pu:cvs=[]:=Lg.1 d9
 subst pu
 have hμk:μ k=some v:=by cases jy with|osl h=>exact h
 have Mx:=b3n (a:=a) hρ gn
 obtain⟨bl,e1,b6⟩:=h.own.blk k v hμk
 rw[hk]at e1
 cases e1
 let Ac:Nat→Prop:=fun b=>held A μ b∧¬Has v b
 have My:∀b,held Ac (c35 v) b↔held A μ b:=by
  intro b
  constructor
  ·rintro(hb|⟨j,y,hj,hy⟩)
   ·exact hb.1
   ·unfold c35 at hj
    split at hj
    ·cases hj;exact .inr ⟨k,v,hμk,hy⟩
    ·cases hj
  ·intro hb
   by_cases e:Has v b
   ·exact .inr ⟨0,v,rfl,e⟩
   ·exact .inl ⟨hb,e⟩
 have wi:∀b,held A μ b→b<w.heap.size:=fun b hb=>by
  rcases hb with hb|⟨k,x,hk,hx⟩
  ·exact h.own.bnd b hb
  ·exact(h.own.rng k x b hk hx).1
 refine⟨fid,(v::rest.map a.eval).toArray,?_,Dv,?_⟩
 ·have hm:c.args.map a.eval=(v::rest.map a.eval).toArray:=by
   apply Array.ext'
   rw[M1,f9]
   simp[ti]
  simp only[execOp,cn,resolve,hf,rc,Deferred.ofValue,hm,Ic,invoke,callFunc,run_program,h1,h2,Ij,h3]
  simp
 ·refine(hS Ac w v T sz n g cp ys _ p g' r (fun b hb=>wi b hb.1) (fun b hb=>⟨(h.own.rng k v b hμk hb).1,fun hh=>hh.2 hb⟩) (fun q t hg=>⟨(h.glo q t hg).1,b0i (fun b hb=>(My b).1 hb) (h.glo q t hg).2 (h.glo q t hg).1⟩) (b6.row_mono (fun b hb=>(My b).1 hb))
   (g5c h.own Mx pa (by simpa using gh) (fun b hb=>(My b).1 hb)) hr hp).mono ?_
  rintro e w' ⟨res,rfl,r1,r2,hB,bg⟩
  have c8:Keeps w w' (held A μ) (held A μ) μ μ:=⟨bg.size,fun b hb hh=>bg.block b hb (fun e=>hh (.inr ⟨k,v,hμk,e⟩)),fun _ _ h=>h,fun _ _ h=>h⟩
  refine⟨res,rfl,?_,⟨fun j y hj=> ?_,h.own.inj,fun j y b hj hb=> ?_,fun b hb=>Jd (h.own.bnd b hb) bg.size⟩,⟨bg.os,bg.tape,bg.output,bg.drawn,bg.size,fun i hi hx=> ?_⟩,c8⟩
  ·cases r with
   |true=>rw[r1 rfl];rw[Iw rfl];cases jy with|osl h=>exact .osl h
   |false=>rw[r2 rfl];exact .tup [] rfl (fun i s v h=>E7)
  ·by_cases e:j=k
   ·subst e
    rw[hμk]at hj
    cases hj
    exact⟨_,Hs,hB.row_mono (fun b hb=>(My b).2 hb)⟩
   ·obtain⟨bl,e1,hb⟩:=h.own.blk j y hj
    refine⟨bl,by rw[Jb (Ne.symm e)];exact e1,hb.keep c8 (fun b hb=>bg.block b (h.own.rng j y b hj hb).1 (fun e2=>e (h.own.inj j k y v b hj hμk hb e2)))⟩
  ·obtain⟨q1,q2⟩:=h.own.rng j y b hj hb
   exact⟨Jd q1 bg.size,q2⟩
  ·refine bg.block i (Jd hi h.base) (fun e=> ?_)
   rcases(h.own.rng k v i hμk e).2.2 with h1|h1
   ·omega
   ·exact hx h1
theorem b19.row_flat{w:World}{H H':Nat→Prop}{μ μ':Mu}{x:Value}{T:TypeId}{sz n:Nat}{f:Nat→List SV}{c:Option Nat}(hf:∀i,i<n→(f i).all SV.flat0=true)(h:b19 w H μ x (.row T sz n f c)):b19 w H' μ' x (.row T sz n f c):=by
 obtain⟨a,m,rfl,hn,hm,hc,hl,h⟩:=h
 refine⟨a,m,rfl,hn,hm,hc,hl,?_⟩
 rcases h with h|⟨b,o,vs,c7,rfl,hh,ho,h1,hd⟩
 ·exact .inl h
 ·exact .inr ⟨b,o,vs,c7,rfl,hh,ho,h1,fun i j s v hi hs hv=>c5w (J4.1 (hf i hi) s (J0 hs)) (hd i j s v hi hs hv)⟩
theorem f4a(hC:b1u E)(h:SD E B0 X A w0 nt st a w μ){o:Oper}{pre:Prop}{s:SV}{own':List Blk}(he:f5i E st.own (opd E st.ρ none) o.op=some (pre,s,own'))(hp:pre):
 ∃f vals,(execOp a.eval o).run E.P w=.ok (.enter f vals) w∧own'.length=st.own.length∧Calls E.P f vals w fun e w'=>∃v,e=.returned v∧D w' (held A μ) μ s v∧After B0 X A w w' μ μ own':=by
 unfold f5i at he
 split at he
 rotate_left
 ·cases he
 rename_i c cn
 split at he
 rotate_left
 ·cases he
 rename_i f x rest hf f9
 split at he
 rotate_left
 ·cases he
 rename_i fid k hρf hρx
 split at he
 rotate_left
 ·cases he
 rename_i e T sz n g cp hX hk
 simp only[J3,Ia]at he
 obtain⟨xs,gn,ys,pa,⟨p,g',r⟩,hr,rfl,rfl,rfl⟩:=he
 obtain⟨hp,hflat⟩:=hp
 have hρ:=h.opds (g:=none) (fun q b e=>E4)
 obtain⟨⟨fn,h1,h2,h3⟩,hS⟩:=hC.2.1 fid e hX
 have fe:=hρ _ _ hρf
 generalize rc:a.eval f=vf at fe
 have jy:=hρ _ _ hρx
 generalize ti:a.eval x=v at jy
 cases fe with
 |clo cvs d9 n9=>
 have pu:cvs=[]:=Lg.1 d9
 subst pu
 have hμk:μ k=some v:=by cases jy with|osl h=>exact h
 have Mx:=b3n (a:=a) hρ gn
 obtain⟨bl,e1,b6⟩:=h.own.blk k v hμk
 rw[hk]at e1
 cases e1
 let A1:Nat→Prop:=fun b=>A b∨Has v b
 let μ1:Mu:=μ.drop k
 have hμ1:∀{j x},μ1 j=some x→j≠k∧μ j=some x:=by
  intro j x hj
  simp only[μ1,Mu.drop]at hj
  split at hj
  ·cases hj
  ·rename_i bb;exact⟨bb,hj⟩
 have Mz:∀j i x,d7t k j=some i→μ j=some x→μ1 i=some x:=by
  intro j i x hj hx
  unfold d7t at hj
  split at hj
  ·cases hj
  ·rename_i bb;cases hj;simp[μ1,Mu.drop,bb,hx]
 have Nw:∀b,held A1 μ1 b↔held A μ b:=by
  intro b
  constructor
  ·rintro((hb|hb)|⟨j,y,hj,hy⟩)
   ·exact .inl hb
   ·exact .inr ⟨k,v,hμk,hb⟩
   ·exact .inr ⟨j,y,(hμ1 hj).2,hy⟩
  ·rintro(hb|⟨j,y,hj,hy⟩)
   ·exact .inl (.inl hb)
   ·by_cases e:j=k
    ·subst e;rw[hμk]at hj;cases hj;exact .inl (.inr hy)
    ·exact .inr ⟨j,y,by simp[μ1,Mu.drop,e,hj],hy⟩
 have m9:Own B0 X A1 w μ1 (st.own.map (Blk.ren (d7t k))):=by
  refine⟨fun j y hj=> ?_,fun j j' y y' b hj bh=>h.own.inj j j' y y' b (hμ1 hj).2 (hμ1 bh).2,fun j y b hj hb=> ?_,fun b hb=> ?_⟩
  ·obtain⟨bl,e2,hb⟩:=h.own.blk j y (hμ1 hj).2
   exact⟨bl.ren (d7t k),by simp[e2],hb.ren (fun b hb=>(Nw b).1 hb) Mz⟩
  ·obtain⟨r1,r2,r3⟩:=h.own.rng j y b (hμ1 hj).2 hb
   refine⟨r1,?_,r3⟩
   rintro(hA|hv)
   ·exact r2 hA
   ·exact(hμ1 hj).1 (h.own.inj j k y v b (hμ1 hj).2 hμk hb hv)
  ·rcases hb with hb|hb
   ·exact h.own.bnd b hb
   ·exact(h.own.rng k v b hμk hb).1
 have Q2:∀b,held A (c35 v) b↔A1 b:=by
  intro b
  constructor
  ·rintro(hb|⟨j,y,hj,hy⟩)
   ·exact .inl hb
   ·unfold c35 at hj
    split at hj
    ·cases hj;exact .inr hy
    ·cases hj
  ·rintro(hb|hb)
   ·exact .inl hb
   ·exact .inr ⟨0,v,rfl,hb⟩
 have bj:∀b,held A (c35 v) b→held A μ b:=fun b hb=>by
  rcases(Q2 b).1 hb with hb|hb
  ·exact .inl hb
  ·exact .inr ⟨k,v,hμk,hb⟩
 have hDy:DL w (held A (c35 v)) b0a ys (rest.map a.eval):=by
  obtain⟨l1,l2⟩:=b38 pa
  refine⟨by rw[Mx.1,l1];simp,fun i s u hs hu=> ?_⟩
  have h9:i<(xs.map (SV.ren1 (d7t k))).length:=G7
  obtain⟨y,hy,e2⟩:=l2 i _ (Iv h9)
  rw[hs]at hy
  cases hy
  have dv:i<xs.length:=by simpa using h9
  have gy:=b94 (w:=w) (H':=held A1 μ1) (μ':=μ1) (fun b hb=>(Nw b).1 hb) Mz (Mx.2 i _ u (Iv dv) hu)
  simp only[List.getElem_map]at e2
  exact b7z m9 (fun _ _ h=>h) (fun b hb=>(Nw b).2 (bj b hb)) gy e2 (fun _ b hb=>(Q2 b).1 hb)
 have wi:∀b,held A μ b→b<w.heap.size:=fun b hb=>by
  rcases hb with hb|⟨k,x,hk,hx⟩
  ·exact h.own.bnd b hb
  ·exact(h.own.rng k x b hk hx).1
 refine⟨fid,(v::rest.map a.eval).toArray,?_,Dv,?_⟩
 ·have hm:c.args.map a.eval=(v::rest.map a.eval).toArray:=by
   apply Array.ext'
   rw[M1,f9]
   simp[ti]
  simp only[execOp,cn,resolve,hf,rc,Deferred.ofValue,hm,Ic,invoke,callFunc,run_program,h1,h2,Ij,h3]
  simp
 ·refine(hS A w v T sz n g cp ys _ p g' r h.own.bnd (fun b hb=>⟨(h.own.rng k v b hμk hb).1,(h.own.rng k v b hμk hb).2.1⟩) (fun q t hg=>⟨(h.glo q t hg).1,b0i bj (h.glo q t hg).2 (h.glo q t hg).1⟩) (b6.row_mono bj) hDy hr hp).mono ?_
  rintro e w' ⟨res,rfl,r1,r2,hB,bg⟩
  have c8:Keeps w w' (held A μ) (held A μ) μ μ:=⟨bg.size,fun b hb hh=>bg.block b hb (fun e=>hh (.inr ⟨k,v,hμk,e⟩)),fun _ _ h=>h,fun _ _ h=>h⟩
  refine⟨res,rfl,?_,⟨fun j y hj=> ?_,h.own.inj,fun j y b hj hb=> ?_,fun b hb=>Jd (h.own.bnd b hb) bg.size⟩,⟨bg.os,bg.tape,bg.output,bg.drawn,bg.size,fun i hi hx=> ?_⟩,c8⟩
  ·cases r with
   |true=>rw[r1 rfl];rw[Iw rfl];cases jy with|osl h=>exact .osl h
   |false=>rw[r2 rfl];exact .tup [] rfl (fun i s v h=>E7)
  ·by_cases e:j=k
   ·subst e
    rw[hμk]at hj
    cases hj
    exact⟨_,Hs,hB.row_flat hflat⟩
   ·obtain⟨bl,e1,hb⟩:=h.own.blk j y hj
    refine⟨bl,by rw[Jb (Ne.symm e)];exact e1,hb.keep c8 (fun b hb=>bg.block b (h.own.rng j y b hj hb).1 (fun e2=>e (h.own.inj j k y v b hj hμk hb e2)))⟩
  ·obtain⟨q1,q2⟩:=h.own.rng j y b hj hb
   exact⟨Jd q1 bg.size,q2⟩
  ·refine bg.block i (Jd hi h.base) (fun e=> ?_)
   rcases(h.own.rng k v i hμk e).2.2 with h1|h1
   ·omega
   ·exact hx h1
theorem c30{P:Program}{w:World}{T U ty e:TypeId}{k:IntKind}{inf:TypeInfo}{zv:Value}(ht:P.underlying T=some (.slice e))(hu:P.underlying U=some (.int k))(hi:P.info? e=some inf)(hz:inf.zero=some zv){a:Option Addr}{m:Nat}(h0:0<m)(p9:m≤9223372036854775807)(hb:m*inf.bytes≤140737488355328)(bk:0<inf.size):
 (Builtin.append_ #[T,U] ty #[.slice a 0 0,.int .i64 m]).run P w=.ok (.slice (some ⟨w.heap.size,0,none⟩) m (grownCap w m 0 e)) (w.drew.alloc (.cells (Builtin.zeroCells zv.cells m++Builtin.zeroCells zv.cells (grownCap w m 0 e-m)) e)):=by
 have hw:IntKind.i64.wrap (m:Int)=m:=b4p Ez
 have hm:m≠0:=Dt
 have h1:¬((m:Int)<0):=Dt
 have h2:¬(281474976710656<(m:Int)*(inf.bytes:Int)):=by
  have:((m*inf.bytes:Nat):Int)=(m:Int)*inf.bytes:=Dv
  omega
 have h3:¬(9223372036854775807<(m:Int)):=Dt
 have h48:=growslice_fits (need:=m) (old:=0) Dt hb
 have si:¬(281474976710656<Builtin.nextslicecap m 0*inf.bytes):=Dt
 have Nx:inf.size≠0:=Dt
 have hf:(Builtin.firstCells inf.size 0 (.slice a 0 0)).run P w.drew=.ok #[] w.drew:=by cases a<;>simp[Builtin.firstCells,loadCells,loadCellsFrom]
 simp[Builtin.append_,Jm ht,Jm hu,sizeOf,typeInfo,zeroValue,hi,hz,asInt,asIntOf,hw,h1,h2,h3,si,hm,Question.forced,hf,newRow,grownCap]
 intro h
 have:=Nat.mul_pos h0 bk
 omega
theorem c8d(z:Array Value)(n i:Nat)(u:Value)(h:(Builtin.zeroCells z n).toList[i]?=some u):z.toList[i%z.size]?=some u:=by
 unfold Builtin.zeroCells at h
 rw[M1,Jv,J1]at h
 obtain⟨j,hj,rfl⟩:=h
 rw[Array.toList_range]at hj
 obtain⟨hl,e⟩:=Iz.1 hj
 simp only[List.length_range]at hl
 simp only[List.getElem_range]at e
 subst e
 have dg:0<z.size:=by
  rcases Jx z.size with e|e
  ·rw[e]at hl;simp at hl
  ·exact e
 have h9:=M4 i dg
 rw[Kk,K4 z (i%z.size) h9,La h9]
theorem f4j{B0:Nat}{X A:Nat→Prop}{w:World}{μ:Mu}{own ownN:List Blk}{a:Act}{ρ:Operand→Option SV}(hO:Own B0 X A w μ ownN)(hB:B0≤w.heap.size)(hk:μ own.length=none)(hρ:∀(x:Operand) (s:SV),ρ x=some s→D w (held A μ) μ s (a.eval x)){o:Oper}{pre:Prop}{b:Blk}
 (he:g1p E ρ o.op=some (pre,b)) (hp:pre) (cx:ownN[own.length]?=some b):
 ∃r w' μ',(execOp a.eval o).run E.P w=.ok (.value r) w'∧After B0 X A w w' μ μ' ownN∧(∀j,j≠own.length→μ' j=μ j)∧D w' (held A μ') μ' (.osl own.length) r:=by
 unfold g1p at he
 split at he
 rotate_left
 ·cases he
 rename_i x y T U cn
 split at he
 rotate_left
 ·cases he
 rename_i e ki hT hU
 split at he
 rotate_left
 ·cases he
 rename_i sz n f c m hx hy
 split at he
 rotate_left
 ·cases he
 rename_i inf z hi hz
 split at he
 rotate_left
 ·cases he
 rename_i hc
 obtain⟨nw,dg,sj,hzp⟩:=hc
 simp only[Ib]at he
 obtain⟨rfl,rfl⟩:=he
 obtain⟨⟨rfl,rfl⟩,Q3,t7,nh⟩:=hp
 have ht:=b0y hT
 obtain⟨inf',zv,b7,m6,rfl,nz⟩:=b3p (w:=w) (H:=held A μ) (μ:=μ) hz
 rw[hi]at b7
 cases b7
 have jk:zv.cells.size=inf.size:=Fj
 have fi:∀v∈zv.cells.toList,v.oneCell'=true:=b3k nz sj
 have jy:=hρ _ _ hx
 have zt:=hρ _ _ hy
 generalize ti:a.eval x=vx at jy
 generalize hvy:a.eval y=vy at zt
 cases zt
 obtain⟨ad,rfl⟩:∃ad,vx=.slice ad 0 0:=by
  cases jy with
  |sl a b o m g hm hx hc h8 hl hd=>
   rcases hc with hc|hc
   ·cases hc
   ·cases hc;exact⟨_,rfl⟩
 have hmn:((m.toNat:Nat):Int)=m:=Dt
 have hr:=c30 (P:=E.P) (w:=w) (T:=T) (U:=U) (ty:=o.type) (a:=ad) (m:=m.toNat) ht hU hi m6 Dt Dt nh dg
 rw[hmn]at hr
 have fw:=grownCap_ge w m.toNat 0 e
 have fx:=grownCap_le_maxLen w m.toNat 0 e Ep
 have ma:∀v∈(Builtin.zeroCells zv.cells m.toNat++Builtin.zeroCells zv.cells (grownCap w m.toNat 0 e-m.toNat)).toList,v.oneCell'=true:=fun v hv=>by
  rw[Mg,Jf]at hv
  rcases hv with hv|hv
  ·exact b36 fi _ v hv
  ·exact b36 fi _ v hv
 have rq:(Builtin.zeroCells zv.cells m.toNat).toList.length=m.toNat*inf.size:=by simp[size_zeroCells,jk]
 obtain⟨o1,o2⟩:=c2k (x:=.slice (some ⟨w.heap.size,0,none⟩) m.toNat (grownCap w m.toNat 0 e)) hO.drew hB hk cx (.cells (Builtin.zeroCells zv.cells m.toNat++Builtin.zeroCells zv.cells (grownCap w m.toNat 0 e-m.toNat)) e) (fun b hb=>(b5i Dt).1 hb) (fun μ' _ c8=>by
  refine⟨_,_,rfl,fw,fx,.inl rfl,fun i _=>⟨by simpa using jk,hzp⟩,.inr ⟨w.heap.size,0,(Builtin.zeroCells zv.cells m.toNat++Builtin.zeroCells zv.cells (grownCap w m.toNat 0 e-m.toNat)).toList,Dt,rfl,Lr w.drew _,?_,ma,fun i j s v b7 hs hv=> ?_⟩⟩
  ·rw[Mg,Jj,rq,Kr,size_zeroCells,jk,←Kv,Kf,show m.toNat+(grownCap w m.toNat 0 e-m.toNat)=grownCap w m.toNat 0 e from Dt]
   exact C0
  ·have hj:j<inf.size:=by
    have:=(Iz.1 hs).1
    rw[nw]at this
    exact this
   have h9:=b59 b7 hj
   rw[Mg,Kf,J6 (by rw[rq];exact h9)]at hv
   have:=c8d _ _ _ _ hv
   rw[jk,L4,Nat.mul_add_mod,Nat.mod_eq_of_lt hj]at this
   exact((nz.2 j s v hs this).keep Keeps.drew).keep c8)
 have bi:(execOp a.eval o).run E.P w=.ok (.value (.slice (some ⟨w.heap.size,0,none⟩) m.toNat (grownCap w m.toNat 0 e))) (w.drew.alloc (.cells (Builtin.zeroCells zv.cells m.toNat++Builtin.zeroCells zv.cells (grownCap w m.toNat 0 e-m.toNat)) e)):=by
  simp only[execOp,cn,resolve,Ic,invoke,builtin]
  rw[show (⟨[x,y]⟩:Array Operand).map a.eval= #[a.eval x,a.eval y]from Dv,ti,hvy,hr]
  simp
 exact⟨_,_,_,bi,⟨o1,Fr.drew.trans (Fr.alloc _ hB),o2.size,o2.block,o2.less,o2.own⟩,fun j hj=>Em,.osl Ec⟩
theorem f36{B0:Nat}{X A:Nat→Prop}{w:World}{μ:Mu}{own:List Blk}{a:Act}{ρ:Operand→Option SV}(hO:Own B0 X A w μ own)(hB:B0≤w.heap.size)(hρ:∀(x:Operand) (s:SV),ρ x=some s→D w (held A μ) μ s (a.eval x)){o:Oper}{pre:Prop}{k:Nat}{own':List Blk}
 (he:d7c E own ρ o.op=some (pre,k,own')) (hp:pre):
 ∃r μ',(execOp a.eval o).run E.P w=.ok (.value r) w∧D w (held A μ') μ' (.osl k) r∧After' [k] B0 X A w w μ μ' own'∧own'.length=own.length∧(E.ak k=false∧k<own.length)∧∀j,j≠k→μ' j=μ j:=by
 unfold d7c at he
 split at he
 rotate_left
 ·cases he
 rename_i T x hi mx cn
 split at he
 rotate_left
 ·cases he
 rename_i k' kh h km m hx hh hm
 split at he
 rotate_left
 ·cases he
 rename_i e' sz n f c hk
 split at he
 rotate_left
 ·cases he
 rename_i e hT
 split at he
 rotate_left
 ·cases he
 rename_i hc
 obtain⟨bk,n8⟩:=hc
 simp only[Ib]at he
 obtain⟨rfl,rfl,rfl⟩:=he
 obtain⟨h0,h1,h2⟩:=hp
 have ht:=b0y hT
 have ji:E.P.elem T=e:=by simp[Program.elem,ht]
 simp only[b10,J1]at bk
 obtain⟨inf,bn,rfl⟩:=bk
 have jy:=hρ _ _ hx
 have Q4:=hρ _ _ hh
 have Q5:=hρ _ _ hm
 generalize ti:a.eval x=v at jy
 generalize hvh:a.eval hi=vh at Q4
 generalize jq:a.eval mx=vm at Q5
 cases Q4
 cases Q5
 cases jy with
 |osl we=>
  obtain⟨bl,e1,b6⟩:=hO.blk _ _ we
  rw[hk]at e1
  cases e1
  obtain⟨aa,cap,e2,f7,ff,j7,dq,b9⟩:=b6
  cases e2
  rename_i cap aa
  have e1:=Kt (P:=E.P) w km m cap .slice3Acap Dt Dt
  have e2:=Kt (P:=E.P) w kh h m.toNat .slice3B Dt Dt
  have ny:(Instr.sliceBounds true n cap none (some (.int kh h)) (some (.int km m))).run E.P w=.ok (0,h.toNat,m.toNat) w:=by
   simp[Instr.sliceBounds,e1,e2]
  refine⟨.slice aa h.toNat m.toNat,μ.set k' (.slice aa h.toNat m.toNat),?_,.osl Ec,b8t hO hB we ⟨_,_,_,rfl⟩ ⟨_,_,_,rfl⟩ ?_ (J2 _) (fun _ _ _=>rfl) rfl rfl rfl (fun c8=> ?_),Dv,⟨n8,(Iz.1 hk).1⟩,fun j hj=>Em⟩
  ·have hr:(Instr.sliceAt T (.slice aa n cap) none (some (.int kh h)) (some (.int km m))).run E.P w=.ok (.slice aa h.toNat m.toNat) w:=by
    have wd:aa.map (·.add (0*inf.size))=aa:=by cases aa<;>simp[Addr.add_zero']
    simp only[Instr.sliceAt,Ic,Jm ht,Instr.slice,ny,b0h bn,wd,ite_self,Nat.sub_zero]
   simp[execOp,cn,ti,hvh,jq,hr]
  ·rcases b9 with h3|⟨b,o,vs,c7,rfl,hh,ho,mh,hd⟩
   ·left
    rw[show m.toNat=0 from Dt]
    exact b4z
   ·by_cases q:m.toNat=0
    ·left;rw[q];exact b4z
    ·right;left
     exact(b1z Dt).trans (b1z c7).symm
  ·refine⟨aa,m.toNat,rfl,Dt,Dt,.inr rfl,fun i hi=>dq i Dt,?_⟩
   rcases b9 with h3|⟨b,o,vs,c7,rfl,hh,ho,mh,hd⟩
   ·left;omega
   ·by_cases q:m.toNat=0
    ·left;exact q
    ·right
     have:m.toNat*inf.size≤cap*inf.size:=Jt _ Dt
     exact⟨b,o,vs,Dt,rfl,hh,Dt,mh,fun i j s v hi hs hv=>b0k c8 (hd i j s v Dt hs hv) (J4.1 (dq i Dt).2 s (J0 hs))⟩
theorem c03(hE:EnvOK E)(hC:b1u E)(h:SD E B0 X A w0 nt st a w μ){ops:Array Oper}{o:Oper}{pre:Prop}{st':St}(he:f8t E nt ops st o=some (pre,st'))(hp:pre)
 {K:Act→World→Prop} {Q:Exit→Act→World→Prop} (hK:∀a' w' μ',SD E B0 X A w0 nt st' a' w' μ'→K a' w'):
 if Region.wanted o (yielded ops a.tmps)then o.wp E.P a w K Q else K (a.put o.dst undef) w:=by
 unfold f8t at he
 split at he
 ·exact c9g hE hC h he hp hK
 rename_i jh
 have fin:∀{p:Prop} {s:SV} {own':List Blk},p=pre→b7m nt o.dst=true→(⟨d2u o.dst none s st.ρ,own'⟩:St)=st'→(∃f vals,(execOp a.eval o).run E.P w=.ok (.enter f vals) w∧own'.length=st.own.length∧Calls E.P f vals w fun e w'=>∃v,e=.returned v∧D w' (held A μ) μ s v∧After B0 X A w w' μ μ own')→o.wp E.P a w K Q:=by
  rintro p s own' rfl hd rfl ⟨f,vals,bi,b8,hc⟩
  unfold Oper.wp
  rw[bi]
  refine hc.mono ?_
  rintro e w' ⟨v,rfl,hv,ha⟩
  exact hK _ w' μ (h.put ha.own ha.fr (b21 ha.keeps h.glo) (h.env.keep ha.keeps) (fun k hk=>h.fresh k (by rw[←b8];exact hk)) h.anc hd hv)
 split at he
 ·rename_i r hr
  obtain⟨p,s,own'⟩:=r
  split at he
  rotate_left
  ·cases he
  rename_i hd
  simp only[Ib]at he
  rw[Iw Es]
  exact fin he.1 hd he.2 (f75 hC h hr (by rw[show p=pre from he.1];exact hp))
 ·split at he
  ·rename_i r hr
   obtain⟨p,s,own'⟩:=r
   split at he
   rotate_left
   ·cases he
   rename_i hd
   simp only[Ib]at he
   rw[Iw Es]
   exact fin he.1 hd he.2 (f4a hC h hr (by rw[show p=pre from he.1];exact hp))
  ·split at he
   ·rename_i r hr
    obtain⟨p,s,own',kills⟩:=r
    split at he
    rotate_left
    ·cases he
    rename_i hd
    simp only[Ib]at he
    obtain⟨rfl,rfl⟩:=he
    rw[Iw Es]
    exact f4v hC h (by rw[←c8w];exact hr) hp hd hK
   ·split at he
    ·rename_i r hr
     cases he
     rw[Iw Es]
     have hρ:=h.opds (g:=none) (fun q b e=>E4)
     unfold g99 at hr
     split at hr
     rotate_left 2
     ·cases hr
     all_goals
      rename_i T m k x cn
      split at hr
      rotate_left
      ·cases hr
      rename_i sm Mq
      split at hr
      rotate_left
      ·cases hr
      rename_i sk dz
      split at hr
      rotate_left
      ·cases hr
      rename_i sx pk
      split at hr
      rotate_left
      ·cases hr
      rename_i fk
      obtain⟨w',μ',hrun0,gz⟩:=c80 hE h (hρ _ _ Mq) (hρ _ _ dz) (hρ _ _ pk) hr
      have bi:(execOp a.eval o).run E.P w=.ok .skip w':=by simp[execOp,cn,hrun0]
      unfold Oper.wp
      rw[bi]
      show K (a.put o.dst undef) w'
      rw[fk]
      exact hK _ w' μ' gz
    ·split at he
     ·rename_i r hr
      obtain⟨p,k,own'⟩:=r
      split at he
      rotate_left
      ·cases he
      rename_i hd
      simp only[Ib]at he
      obtain⟨rfl,rfl⟩:=he
      rw[Iw Es]
      have hρ:=h.opds (g:=none) (fun q b e=>E4)
      obtain⟨r,μ',bi,hv,ha,b8,pj,hμ⟩:=f36 h.own h.base hρ hr hp
      unfold Oper.wp
      rw[bi]
      show K (a.put o.dst r) w
      refine hK _ w μ' ?_
      refine h.put ha.own ha.fr (b91 ha.keeps h.glo) (h.env.change ha.keeps) (fun j hj=> ?_) (fun j x hx=>ha.keeps.own _ _ (fun e=> ?_) (h.anc j x hx)) hd hv
      ·rw[b8]at hj
       rw[hμ j Dt]
       exact C7
      ·simp only[Jk]at e
       subst e
       rw[Env.an_ak hx]at pj
       cases pj.1
     ·split at he
      ·rename_i r hr
       obtain⟨p,b⟩:=r
       split at he
       rotate_left
       ·cases he
       rename_i hd
       simp only[Ib]at he
       obtain⟨rfl,rfl⟩:=he
       rw[Iw Es]
       have hρ:=h.opds (g:=none) (fun q b e=>E4)
       obtain⟨r,w',μ',bi,ha,hμ,hv⟩:=f4j (h.own.more (own':=st.own++[b]) c2y) h.base (h.fresh _ (J2 _)) hρ hr hp Dv
       unfold Oper.wp
       rw[bi]
       show K (a.put o.dst r) w'
       refine hK _ w' μ' ?_
       refine h.put ha.own ha.fr (b21 ha.keeps h.glo) (h.env.keep ha.keeps) (fun k hk=> ?_) (fun j x hx=>ha.keeps.own _ _ (h.anc j x hx)) hd hv
       simp only[Ig]at hk
       rw[hμ k Dt]
       exact h.fresh k Dt
      ·exact c9g hE hC h he hp hK
theorem b7b(hE:EnvOK E)(hC:b1u E)(h:SD E B0 X A w0 nt st a w μ){ops:Array Oper}{o:Oper}{pre:Prop}{st':St}(he:g0s E nt ops st o=some (pre,st'))(hp:pre)
 {K:Act→World→Prop} {Q:Exit→Act→World→Prop} (hK:∀a' w' μ',SD E B0 X A w0 nt st' a' w' μ'→K a' w'):
 if Region.wanted o (yielded ops a.tmps)then o.wp E.P a w K Q else K (a.put o.dst undef) w:=by
 unfold g0s at he
 split at he
 ·exact c03 hE hC h he hp hK
 ·split at he
  ·obtain⟨μ',h'⟩:=d7r o o.op.operands.toList h
   exact c03 hE hC h' he hp hK
  ·exact c03 hE hC h he hp hK
end
def seqR(E:Env)(nt:Nat)(ops:Array Oper):List Oper→St→Option (Prop×St)
 | [],st=>some (True,st)
 |o::r,st=>(g0s E nt ops st o).bind fun p=>(seqR E nt ops r p.2).map fun q=>(p.1∧q.1,q.2)
def g1v(n:Nat)(K:Nat→Prop):Prop:=d8n n K
theorem f7c(n:Nat)(K:Nat→Prop):g1v n K=K n:=c5k n K
def SV.f0(s:SV)(K:SV→Prop):Prop:=match s with
 |.int k n=>K (.int k n)
 |.bool b=>K (.bool b)
 |.con v=>K (.con v)
 |.own k o=>g1v k fun k=>g1v o fun o=>K (.own k o)
 |.osl k=>g1v k fun k=>K (.osl k)
 |.oel k sz i o=>g1v k fun k=>g1v o fun o=>K (.oel k sz i o)
 |.sl sz n f c=>K (.sl sz n f c)
 |.rel sz n f i o=>g1v o fun o=>K (.rel sz n f i o)
 |.agg cs=>K (.agg cs)
 |.tup cs=>K (.tup cs)
 |.clo f cs=>K (.clo f cs)
 |.omp k=>g1v k fun k=>K (.omp k)
 |.mp T ag h v=>K (.mp T ag h v)
 |.fp ok k i o=>g1v k fun k=>g1v o fun o=>K (.fp ok k i o)
 |.ub p q=>K (.ub p q)
 |.any=>K .any
def fL(f:SV→(SV→Prop)→Prop):List SV→(List SV→Prop)→Prop
 | [],K=>K []
 |s::r,K=>f s fun s'=>fL f r fun r'=>K (s'::r')
def SV.f1(s:SV)(K:SV→Prop):Prop:=match s with
 |.agg cs=>fL SV.f0 cs fun cs'=>K (.agg cs')
 |.clo f cs=>fL SV.f0 cs fun cs'=>K (.clo f cs')
 |s=>s.f0 K
def SV.f2(s:SV)(K:SV→Prop):Prop:=match s with
 |.tup cs=>fL SV.f1 cs fun cs'=>K (.tup cs')
 |s=>s.f1 K
def fG(g:Option (Nat×Bool))(K:Option (Nat×Bool)→Prop):Prop:=match g with
 |none=>K none
 |some (n,true)=>K (some (n,true))
 |some (n,false)=>K (some (n,false))
def fE:List Entry→(List Entry→Prop)→Prop
 | [],K=>K []
 |⟨n,g,s⟩::r,K=>fG g fun g'=>s.f2 fun s'=>fE r fun r'=>K (⟨n,g',s'⟩::r')
def fB:List Blk→(List Blk→Prop)→Prop
 | [],K=>K []
 |.cells T cs::r,K=>fL SV.f0 cs fun cs'=>fB r fun r'=>K (.cells T cs'::r')
 |.row T sz n f c::r,K=>fB r fun r'=>K (.row T sz n f c::r')
 |.map T ag h v::r,K=>fB r fun r'=>K (.map T ag h v::r')
 |.fam T Ts n br F::r,K=>fB r fun r'=>K (.fam T Ts n br F::r')
 |.pmap T k h v::r,K=>fB r fun r'=>K (.pmap T k h v::r')
 |.rowh T sz n f c i u::r,K=>fL SV.f0 u fun u'=>fB r fun r'=>K (.rowh T sz n f c i u'::r')
 |.pool T sz n hd al ln ct::r,K=>fB r fun r'=>K (.pool T sz n hd al ln ct::r')
 |.dead::r,K=>fB r fun r'=>K (.dead::r')
def St.force(st:St)(K:St→Prop):Prop:=match st with
 |⟨ρ,own⟩=>fE ρ fun ρ'=>fB own fun own'=>K ⟨ρ',own'⟩
theorem SV.f0_eq(s:SV)(K:SV→Prop):s.f0 K=K s:=by cases s<;>simp only[SV.f0,f7c]
theorem f8n{f:SV→(SV→Prop)→Prop}(hf:∀s K,f s K=K s):∀(l:List SV) (K:List SV→Prop),fL f l K=K l
 | [],_=>rfl
 |s::r,K=>by simp only[fL,hf,f8n hf r]
theorem SV.f1_eq(s:SV)(K:SV→Prop):s.f1 K=K s:=by
 cases s<;>simp only[SV.f1,SV.f0_eq,f8n SV.f0_eq]
theorem SV.f2_eq(s:SV)(K:SV→Prop):s.f2 K=K s:=by
 cases s<;>simp only[SV.f2,SV.f1_eq,f8n SV.f1_eq]
theorem g6w(g:Option (Nat×Bool))(K:Option (Nat×Bool)→Prop):fG g K=K g:=by
 match g with
 |none=>rfl
 |some (n,true)=>rfl
 |some (n,false)=>rfl
theorem j3h:∀(l:List Entry) (K:List Entry→Prop),fE l K=K l
 | [],_=>rfl
 |⟨n,g,s⟩::r,K=>by simp only[fE,g6w,SV.f2_eq,j3h r]
theorem f39:∀(l:List Blk) (K:List Blk→Prop),fB l K=K l
 | [],_=>rfl
 |.cells T cs::r,K=>by simp only[fB,f8n SV.f0_eq,f39 r]
 |.row T sz n f c::r,K=>F6
 |.map T ag h v::r,K=>F6
 |.fam T Ts n br F::r,K=>F6
 |.pmap T k h v::r,K=>F6
 |.rowh T sz n f c i u::r,K=>by simp only[fB,f8n SV.f0_eq,f39 r]
 |.pool T sz n hd al ln ct::r,K=>F6
 |.dead::r,K=>F6
theorem St.force_eq(st:St)(K:St→Prop):st.force K=K st:=by
 cases st;simp only[St.force,j3h,f39]
def fE1:List Entry→(List Entry→Prop)→Prop
 | [],K=>K []
 |⟨n,g,s⟩::r,K=>fG g fun g'=>s.f2 fun s'=>match r with
  | []=>K [⟨n,g',s'⟩]
  |x::xs=>K (⟨n,g',s'⟩::x::xs)
theorem fE1_eq(l:List Entry)(K:List Entry→Prop):fE1 l K=K l:=by
 match l with
 | []=>rfl
 |⟨n,g,s⟩::[]=>simp only[fE1,g6w,SV.f2_eq]
 |⟨n,g,s⟩::x::xs=>simp only[fE1,g6w,SV.f2_eq]
def fB1:List Blk→(List Blk→Prop)→Prop
 | [],K=>K []
 |b::r,K=>K (b::r)
theorem fB1_eq(l:List Blk)(K:List Blk→Prop):fB1 l K=K l:=by cases l<;>rfl
def cheap(o:Oper):Bool:=match o.op with
 |.store _ _ _|.alloc _|.box _ _|.buildSlice _ _ _|.makeSlice _ _ _|.makeMap _ _|.mapUpdate _ _ _ _|.insert _ _ _ _|.call _|.slice _ _ _ _ _=>false
 |_=>true
def St.forceO(o:Oper)(st:St)(K:St→Prop):Prop:=match cheap o with
 |true=>match st with
  |⟨ρ,own⟩=>fE1 ρ fun ρ'=>fB1 own fun own'=>K ⟨ρ',own'⟩
 |false=>st.force K
theorem St.forceO_eq(o:Oper)(st:St)(K:St→Prop):st.forceO o K=K st:=by
 unfold St.forceO
 split
 ·cases st;simp only[fE1_eq,fB1_eq]
 ·exact St.force_eq st K
def Ask(p:Prop):Prop:=p
theorem Ask.mk{p:Prop}(h:p):Ask p:=h
theorem Ask.out{p:Prop}(h:Ask p):p:=h
attribute [irreducible] Ask
def g2f(a b:Option Entry):Prop:=a=b
theorem g2f.mk{a b:Option Entry}(h:a=b):g2f a b:=h
theorem g2f.out{a b:Option Entry}(h:g2f a b):a=b:=h
attribute [irreducible] g2f
def f3b(E:Env)(nt:Nat)(ops:Array Oper)(K:St→Prop):List Oper→St→Prop
 | [],st=>K st
 |o::r,st=>match g0s E nt ops st o with
  |some (p,st')=>Ask p∧st'.forceO o (f3b E nt ops K r)
  |none=>False
theorem f74{E:Env}{nt:Nat}{ops:Array Oper}{K:St→Prop}:∀(l:List Oper) (st:St),f3b E nt ops K l st→∃p st',seqR E nt ops l st=some (p,st')∧p∧K st':=by
 intro l
 induction l with
 |nil=>intro st h;exact⟨True,st,rfl,Ix,h⟩
 |cons o l ih=>
  intro st h
  simp only[f3b]at h
  split at h
  ·rename_i p st1 h1
   rw[St.forceO_eq]at h
   obtain⟨q,st2,e,hq,hk⟩:=ih st1 h.2
   exact⟨p∧q,st2,by simp[seqR,h1,e],⟨h.1.out,hq⟩,hk⟩
  ·exact h.elim
def b3q:Option Nat→Option Nat→Prop
 |_,none=>True
 |c,some m=>c=some m
def SV.lf:SV→SV→Prop
 |_,.any=>True
 |.int k n,.int k' m=>if k=k' then n=m else False
 |.bool b,.bool c=>b=c
 |.ub p q,.ub p' q'=>(p→p')∧(q→q')
 |.con v,.con v'=>v=v'
 |.own k o,.own k' o'=>if k=k'∧o=o' then True else False
 |.osl k,.osl k'=>if k=k' then True else False
 |.oel k sz i o,.oel k' sz' i' o'=>k=k'∧sz=sz'∧i=i'∧o=o'
 |.sl sz n f c,.sl sz' n' f' c'=>n=n'∧(if sz=sz' then True else n=0)∧b3q c c'∧∀i,i<n→f i=f' i
 |.con (.slice none 0 0),.sl _ n' _ c'=>n'=0∧b3q (some 0) c'
 |.rel sz n f i o,.rel sz' n' f' i' o'=>sz=sz'∧n=n'∧i=i'∧o=o'∧∀j,j<n→f j=f' j
 |.clo f cs,.clo f' cs'=>f=f'∧cs=cs'
 |.omp k,.omp k'=>if k=k' then True else False
 |.mp T ag h v,.mp T' ag' h' v'=>(T=T'∧ag=ag')∧(∀q,h q=h' q)∧∀q,h q=true→v q=v' q
 |_,_=>False
def lfL:List SV→List SV→Prop
 | [],[]=>True
 |s::r,t::q=>s.lf t∧lfL r q
 |_,_=>False
def d0g(xs ys:List SV):Prop:=xs=ys∨lfL xs ys
theorem d1p{n:Nat}{f f':Nat→List SV}(h:∀i,i<n→f i=f' i):∀i,i<n→d0g (f i) (f' i):=fun i hi=>.inl (h i hi)
def SV.le0:SV→SV→Prop
 |_,.any=>True
 |.int k n,.int k' m=>if k=k' then n=m else False
 |.bool b,.bool c=>b=c
 |.ub p q,.ub p' q'=>(p→p')∧(q→q')
 |.con v,.con v'=>v=v'
 |.own k o,.own k' o'=>if k=k'∧o=o' then True else False
 |.osl k,.osl k'=>if k=k' then True else False
 |.oel k sz i o,.oel k' sz' i' o'=>k=k'∧sz=sz'∧i=i'∧o=o'
 |.sl sz n f c,.sl sz' n' f' c'=>n=n'∧(if sz=sz' then True else n=0)∧b3q c c'∧∀i,i<n→d0g (f i) (f' i)
 |.con (.slice none 0 0),.sl _ n' _ c'=>n'=0∧b3q (some 0) c'
 |.rel sz n f i o,.rel sz' n' f' i' o'=>sz=sz'∧n=n'∧i=i'∧o=o'∧∀j,j<n→f j=f' j
 |.clo f cs,.clo f' cs'=>f=f'∧cs=cs'
 |.omp k,.omp k'=>if k=k' then True else False
 |.mp T ag h v,.mp T' ag' h' v'=>(T=T'∧ag=ag')∧(∀q,h q=h' q)∧∀q,h q=true→v q=v' q
 |.fp ok k i o,.fp ok' k' i' o'=>(if k=k'∧o=o' then True else False)∧ok=ok'∧(ok'=true→i=i')
 |.con (.pointer none),.fp ok' _ _ _=>ok'=false
 |_,_=>False
def b24:List SV→List SV→Prop
 | [],[]=>True
 |s::r,t::q=>s.le0 t∧b24 r q
 |_,_=>False
def SV.le1:SV→SV→Prop
 |.agg cs,.agg cs'=>b24 cs cs'
 |s,t=>s.le0 t
def le1L:List SV→List SV→Prop
 | [],[]=>True
 |s::r,t::q=>s.le1 t∧le1L r q
 |_,_=>False
def SV.le2:SV→SV→Prop
 |.tup cs,.tup cs'=>le1L cs cs'
 |s,t=>s.le1 t
section
variable {w : World} {H : Nat → Prop} {μ : Mu}
theorem b5h{c c':Option Nat}{m:Nat}(h:b3q c c')(hc:c=none∨c=some m):c'=none∨c'=some m:=by
 cases c' with
 |none=>exact .inl rfl
 |some k=>
  simp only[b3q]at h
  subst h
  rcases hc with hc|hc
  ·cases hc
  ·exact .inr hc
theorem g6d{s t:SV}{v:Value}(h:D w H μ s v)(bj:s.lf t):D w H μ t v:=by
 unfold SV.lf at bj
 split at bj
 ·exact .any
 ·split at bj
  ·subst_vars;exact h
  ·exact bj.elim
 ·subst bj;exact h
 ·cases h with
  |ub h1 h2=>exact .ub (fun e=>bj.1 (h1 e)) (fun e=>bj.2 (h2 e))
 ·subst bj;exact h
 ·split at bj
  ·rename_i e;obtain⟨rfl,rfl⟩:=e;exact h
  ·exact bj.elim
 ·split at bj
  ·subst_vars;exact h
  ·exact bj.elim
 ·obtain⟨rfl,rfl,rfl,rfl⟩:=bj;exact h
 ·rename_i sz n f c sz' n' f' c'
  obtain⟨rfl,bk,hc,hf⟩:=bj
  cases h with
  |sl a b o m g hm hx j7 h8 hl hd=>
   by_cases h0:n=0
   ·subst h0
    exact Da
   ·have e:sz=sz':=by
     split at bk
     ·assumption
     ·exact absurd bk h0
    subst e
    exact .sl a b o m g hm hx (b5h hc j7) h8 (fun i hi=>G8) (fun i j s hi hs=>hd i j s hi G9)
 ·obtain⟨rfl,hc⟩:=bj
  cases h
  exact Db
 ·obtain⟨rfl,rfl,rfl,rfl,hf⟩:=bj
  cases h with
  |rel b o g hi hb h8 hl hd=>exact .rel b o g hi hb h8 (fun i hi=>G8) (fun i j s hi hs=>hd i j s hi G9)
 ·obtain⟨rfl,rfl⟩:=bj;exact h
 ·split at bj
  ·subst_vars;exact h
  ·exact bj.elim
 ·obtain⟨⟨rfl,rfl⟩,h1,h2⟩:=bj
  cases h with
  |mp r g hb hm hl hd=>
   have e:=Mj h1
   subst e
   exact Dc
 ·exact bj.elim
theorem g1b:∀{cs cs':List SV},lfL cs cs'→cs.length=cs'.length∧∀(i:Nat) (t:SV),cs'[i]?=some t→∃s,cs[i]?=some s∧s.lf t
 | [],[],_=>⟨rfl,fun i t h=>E7⟩
 |s::r,t::q,h=>by
  obtain⟨h1,h2⟩:=g1b h.2
  refine⟨Eh,fun i t' ht=> ?_⟩
  match i with
  |0=>simp at ht;subst ht;exact⟨s,rfl,h.1⟩
  |i+1=>simpa using h2 i t' Ew
 | [],_::_,h=>h.elim
 |_::_,[],h=>h.elim
theorem j0b{s t:SV}(h:s.lf t)(hp:s.pure=true):t.pure=true:=by
 unfold SV.lf at h
 split at h
 ·rfl
 ·rfl
 ·rfl
 ·rfl
 ·rfl
 ·cases hp
 ·cases hp
 ·cases hp
 ·rfl
 ·rfl
 ·rfl
 ·obtain⟨_,rfl⟩:=h;exact hp
 ·cases hp
 ·rfl
 ·exact h.elim
theorem c23{cs cs':List SV}(h:d0g cs cs'):cs.length=cs'.length∧(∀(i:Nat) (t:SV),cs'[i]?=some t→∃s,cs[i]?=some s∧∀{v:Value},D w H μ s v→D w H μ t v)∧(cs.all SV.pure=true→cs'.all SV.pure=true):=by
 rcases h with rfl|h
 ·exact⟨rfl,fun i t ht=>⟨t,ht,fun h=>h⟩,fun h=>h⟩
 ·obtain⟨h1,h2⟩:=g1b h
  refine⟨h1,fun i t ht=> ?_,fun hp=> ?_⟩
  ·obtain⟨s,hs,hl⟩:=h2 i t ht
   exact⟨s,hs,fun hd=>g6d hd hl⟩
  ·rw[J4]
   intro t ht
   obtain⟨i,hi⟩:=Kj.1 ht
   obtain⟨s,hs,hl⟩:=h2 i t hi
   exact j0b hl (J4.1 hp s (J0 hs))
theorem c5r{s t:SV}{v:Value}(h:D w H μ s v)(bj:s.le0 t):D w H μ t v:=by
 unfold SV.le0 at bj
 split at bj
 ·exact .any
 ·split at bj
  ·subst_vars;exact h
  ·exact bj.elim
 ·subst bj;exact h
 ·cases h with
  |ub h1 h2=>exact .ub (fun e=>bj.1 (h1 e)) (fun e=>bj.2 (h2 e))
 ·subst bj;exact h
 ·split at bj
  ·rename_i e;obtain⟨rfl,rfl⟩:=e;exact h
  ·exact bj.elim
 ·split at bj
  ·subst_vars;exact h
  ·exact bj.elim
 ·obtain⟨rfl,rfl,rfl,rfl⟩:=bj;exact h
 ·rename_i sz n f c sz' n' f' c'
  obtain⟨rfl,bk,hc,hf⟩:=bj
  cases h with
  |sl a b o m g hm hx j7 h8 hl hd=>
   by_cases h0:n=0
   ·subst h0
    exact Da
   ·have e:sz=sz':=by
     split at bk
     ·assumption
     ·exact absurd bk h0
    subst e
    exact .sl a b o m g hm hx (b5h hc j7) h8 (fun i hi=>by
     obtain⟨g1,_,g3⟩:=c23 (w:=w) (H:=H) (μ:=μ) (hf i hi)
     exact⟨g1▸(hl i hi).1,g3 (hl i hi).2⟩) (fun i j s hi hs=>by
     obtain⟨s0,bv,gy⟩:=(c23 (w:=w) (H:=H) (μ:=μ) (hf i hi)).2.1 j s hs
     exact gy (hd i j s0 hi bv))
 ·obtain⟨rfl,hc⟩:=bj
  cases h
  exact Db
 ·obtain⟨rfl,rfl,rfl,rfl,hf⟩:=bj
  cases h with
  |rel b o g hi hb h8 hl hd=>exact .rel b o g hi hb h8 (fun i hi=>G8) (fun i j s hi hs=>hd i j s hi G9)
 ·obtain⟨rfl,rfl⟩:=bj;exact h
 ·split at bj
  ·subst_vars;exact h
  ·exact bj.elim
 ·obtain⟨⟨rfl,rfl⟩,h1,h2⟩:=bj
  cases h with
  |mp r g hb hm hl hd=>
   have e:=Mj h1
   subst e
   exact Dc
 ·obtain⟨hk,rfl,hi⟩:=bj
  split at hk
  rotate_left
  ·exact hk.elim
  rename_i e
  obtain⟨rfl,rfl⟩:=e
  cases h with
  |fp h=>
   refine .fp ?_
   split
   ·rename_i e
    rw[Iw e]at h
    rw[←hi e]
    exact h
   ·rename_i e
    rwa[Iy e]at h
 ·subst bj
  cases h
  exact .fp rfl
 ·exact bj.elim
theorem d0r:∀{cs cs':List SV},b24 cs cs'→cs.length=cs'.length∧∀(i:Nat) (t:SV),cs'[i]?=some t→∃s,cs[i]?=some s∧s.le0 t
 | [],[],_=>⟨rfl,fun i t h=>E7⟩
 |s::r,t::q,h=>by
  obtain⟨h1,h2⟩:=d0r h.2
  refine⟨Eh,fun i t' ht=> ?_⟩
  match i with
  |0=>simp at ht;subst ht;exact⟨s,rfl,h.1⟩
  |i+1=>simpa using h2 i t' Ew
 | [],_::_,h=>h.elim
 |_::_,[],h=>h.elim
theorem d45{s t:SV}{v:Value}(h:D w H μ s v)(bj:s.le1 t):D w H μ t v:=by
 unfold SV.le1 at bj
 split at bj
 ·obtain⟨h1,h2⟩:=d0r bj
  cases h with
  |agg vs hl hd=>
   refine .agg vs Dt (fun i t v ht hv=> ?_)
   obtain⟨s,hs,bw⟩:=h2 i t ht
   exact c5r (hd i s v hs hv) bw
 ·exact c5r h bj
theorem d9q:∀{cs cs':List SV},le1L cs cs'→cs.length=cs'.length∧∀(i:Nat) (t:SV),cs'[i]?=some t→∃s,cs[i]?=some s∧s.le1 t
 | [],[],_=>⟨rfl,fun i t h=>E7⟩
 |s::r,t::q,h=>by
  obtain⟨h1,h2⟩:=d9q h.2
  refine⟨Eh,fun i t' ht=> ?_⟩
  match i with
  |0=>simp at ht;subst ht;exact⟨s,rfl,h.1⟩
  |i+1=>simpa using h2 i t' Ew
 | [],_::_,h=>h.elim
 |_::_,[],h=>h.elim
theorem b37{s t:SV}{v:Value}(h:D w H μ s v)(bj:s.le2 t):D w H μ t v:=by
 unfold SV.le2 at bj
 split at bj
 ·obtain⟨h1,h2⟩:=d9q bj
  cases h with
  |tup vs hl hd=>
   refine .tup vs Dt (fun i t v ht hv=> ?_)
   obtain⟨s,hs,bw⟩:=h2 i t ht
   exact d45 (hd i s v hs hv) bw
 ·exact d45 h bj
end
def SV.in0(n:Nat):SV→Bool
 |.own k _=>decide (k<n)
 |.osl k=>decide (k<n)
 |.oel k _ _ _=>decide (k<n)
 |.omp k=>decide (k<n)
 |.fp _ k _ _=>decide (k<n)
 |.clo _ cs=>cs.all fun c=>match c with
  |.own k _=>decide (k<n)
  |.osl k=>decide (k<n)
  |.omp k=>decide (k<n)
  |.fp _ k _ _=>decide (k<n)
  |.oel _ _ _ _|.agg _|.tup _=>false
  |.clo _ cs=>cs.isEmpty
  |_=>true
 |.agg _|.tup _=>false
 |_=>true
def SV.in1(n:Nat):SV→Bool
 |.agg cs=>cs.all (SV.in0 n)
 |s=>s.in0 n
def SV.in2(n:Nat):SV→Bool
 |.tup cs=>cs.all (SV.in1 n)
 |s=>s.in1 n
def cut(n:Nat)(μ:Mu):Mu:=fun k=>if k<n then μ k else none
section
variable {w : World} {H H' : Nat → Prop} {μ : Mu} {n : Nat}
theorem c61(hH:∀b,H' b→H b){s:SV}{v:Value}(h:D w H μ s v)(hi:s.in0 n=true):D w H' (cut n μ) s v:=by
 have c:∀{k x},k<n→μ k=some x→cut n μ k=some x:=fun hk hx=>by simp[cut,hk,hx]
 cases h with
 |int=>exact .int
 |bool=>exact .bool
 |con=>exact .con
 |own h=>exact .own (c Fp h)
 |osl h=>exact .osl (c Fp h)
 |oel h=>exact .oel (c Fp h)
 |omp h=>exact .omp (c Fp h)
 |fp h=>exact D.fp_mk (fun ps qs e=>⟨ps,qs,c Fp e,fun _ h=>h⟩) h
 |mp r g hb hm hl hd=>exact b0i hH (.mp r g hb hm hl hd) rfl
 |sl a b o m g hm hx hc h8 hl hd=>exact b0i hH (.sl a b o m g hm hx hc h8 hl hd) rfl
 |rel b o g b7 hb h8 hl hd=>exact b0i hH (.rel b o g b7 hb h8 hl hd) rfl
 |agg=>simp[SV.in0]at hi
 |tup=>simp[SV.in0]at hi
 |clo vs hl hd=>
  refine .clo vs hl (fun i s v hs hv=> ?_)
  have hc:=J4.1 hi s (J0 hs)
  have hD:=hd i s v hs hv
  cases hD with
  |own h=>exact .own (c Ei h)
  |osl h=>exact .osl (c Ei h)
  |omp h=>exact .omp (c Ei h)
  |fp h=>exact D.fp_mk (fun ps qs e=>⟨ps,qs,c Ei e,fun _ h=>h⟩) h
  |mp r g hb hm hl hd=>exact b0i hH (.mp r g hb hm hl hd) rfl
  |oel h=>simp at hc
  |agg=>simp at hc
  |tup=>simp at hc
  |clo us jt fh=>exact b0i hH (.clo us jt fh) Hn
  |int=>exact .int
  |bool=>exact .bool
  |con=>exact .con
  |ub h1 h2=>exact .ub h1 h2
  |any=>exact .any
  |sl a b o m g hm hx fa h8 hl hd=>exact b0i hH (.sl a b o m g hm hx fa h8 hl hd) rfl
  |rel b o g b7 hb h8 hl hd=>exact b0i hH (.rel b o g b7 hb h8 hl hd) rfl
 |ub h1 h2=>exact .ub h1 h2
 |any=>exact .any
theorem d5e(hH:∀b,H' b→H b){s:SV}{v:Value}(h:D w H μ s v)(hi:s.in1 n=true):D w H' (cut n μ) s v:=by
 unfold SV.in1 at hi
 split at hi
 ·cases h with
  |agg vs hl hd=>exact .agg vs hl (fun i s v hs hv=>c61 hH (hd i s v hs hv) (J4.1 hi s (J0 hs)))
 ·exact c61 hH h hi
theorem d3s(hH:∀b,H' b→H b){s:SV}{v:Value}(h:D w H μ s v)(hi:s.in2 n=true):D w H' (cut n μ) s v:=by
 unfold SV.in2 at hi
 split at hi
 ·cases h with
  |tup vs hl hd=>exact .tup vs hl (fun i s v hs hv=>d5e hH (hd i s v hs hv) (J4.1 hi s (J0 hs)))
 ·exact d5e hH h hi
end
def f1k:List (Nat×(Nat→List SV))→List (Nat×(Nat→List SV))→Prop
 | [],[]=>True
 |a::r,b::q=>a.1=b.1∧(∀i,i<a.1→a.2 i=b.2 i)∧f1k r q
 |_,_=>False
def g1j(n:Nat):Option (Nat×Nat)→Bool
 |some (_,c)=>decide (c<n)
 |none=>true
theorem d6f{n:Nat}{br:Option (Nat×Nat)}(h:g1j n br=true):∀i c,br=some (i,c)→c<n:=fun i c e=>by
 subst e;simpa[g1j]using h
def Mem.le(m m':Mem):Prop:=m.cs=m'.cs∧f1k m.rows m'.rows
def Blk.le(n:Nat):Blk→Blk→Prop
 |.cells T cs,.cells T' cs'=>(if T=T'∧cs'.all (SV.in0 n)=true then True else False)∧b24 cs cs'
 |.row T sz k f c,.row T' sz' k' f' c'=>(if T=T'∧sz=sz' then True else False)∧k=k'∧b3q c c'∧∀i,i<k→d0g (f i) (f' i)
 |.map T ag h v,.map T' ag' h' v'=>(T=T'∧ag=ag')∧(∀q,h q=h' q)∧∀q,h q=true→v q=v' q
 |.fam T Ts k br F,.fam T' Ts' k' rt F'=>(if T=T'∧Ts=Ts'∧g1j n rt=true then True else False)∧k=k'∧br=rt∧∀i,i<k→(F i).le (F' i)
 |.pmap T k h v,.pmap T' k' h' v'=>(if T=T'∧k=k'∧k<n then True else False)∧(∀q,h q=h' q)∧∀q,h q=true→v q=v' q
 |.pool T sz k hd al ln ct,.pool T' sz' k' fh al' ln' ct'=>(if T=T'∧sz=sz' then True else False)∧k=k'∧(∀i,i<k→al i=al' i)∧∀i,i<k→al i=true→hd i=fh i∧ln i=ln' i∧∀q,q<ln i→ct i q=ct' i q
 |_,.dead=>True
 |_,_=>False
def d56(n:Nat):List Blk→List Blk→Prop
 |_,[]=>True
 |b::r,b'::r'=>b.le n b'∧d56 n r r'
 | [],_::_=>False
def j1f(n:Nat)(ρ:List Entry):List Entry→Prop
 | []=>True
 |e::r=>(match e.guard,b4a e.slot ρ with
  |none,some x=>match x.guard with
   |none=>(if e.sv.in2 n then True else False)∧x.sv.le2 e.sv
   |some _=>False
  |_,_=>False)∧j1f n ρ r
def f5m(st st':St):Prop:=d56 st'.own.length st.own st'.own∧j1f st'.own.length st.ρ st'.ρ
section
variable {w : World} {H : Nat → Prop} {μ : Mu}
theorem c15{n:Nat}:∀{l l':List Blk},d56 n l l'→∀(k:Nat) (b':Blk),l'[k]?=some b'→∃b,l[k]?=some b∧b.le n b'
 |_,[],_=>fun k b h=>E7
 |b::r,b'::r',h=>fun k x hx=>by
  match k with
  |0=>simp at hx;subst hx;exact⟨b,rfl,h.1⟩
  |k+1=>simpa using c15 h.2 k x (by simpa using hx)
 | [],_::_,h=>h.elim
theorem b9f.le{μ:Mu}{x:Value}{T:TypeId}{sz n:Nat}{f f':Nat→List SV}{c:Option Nat}(h:b9f w H μ x T sz n f c)(hf:∀i,i<n→f i=f' i):b9f w H μ x T sz n f' c:=by
 obtain⟨a,m,rfl,hn,hm,j7,hl,b9⟩:=h
 refine⟨a,m,rfl,hn,hm,j7,fun i hi=>G8,?_⟩
 rcases b9 with h|⟨b,o,vs,c7,rfl,hh,ho,h1,hd⟩
 ·exact .inl h
 ·exact .inr ⟨b,o,vs,c7,rfl,hh,ho,h1,fun i j s v hi hs hv=>hd i j s v hi G9 hv⟩
theorem c8q:∀{l l':List (Nat×(Nat→List SV))},f1k l l'→l.length=l'.length∧∀(j:Nat) (b:Nat×(Nat→List SV)),l'[j]?=some b→∃a,l[j]?=some a∧a.1=b.1∧∀i,i<a.1→a.2 i=b.2 i
 | [],[],_=>⟨rfl,fun j b h=>E7⟩
 |a::r,b::q,h=>by
  obtain⟨h1,h2,h3⟩:=h
  obtain⟨e1,e2⟩:=c8q h3
  refine⟨by simp[e1],fun j x hx=> ?_⟩
  match j with
  |0=>simp at hx;subst hx;exact⟨a,rfl,h1,h2⟩
  |j+1=>simpa using e2 j x (by simpa using hx)
 | [],_::_,h=>h.elim
 |_::_,[],h=>h.elim
theorem MemOK.le{T:TypeId}{Ts:List (TypeId×Nat)}{m m':Mem}{p:Value}{us:List Value}(h:MemOK w H T Ts m p us)(bj:m.le m'):MemOK w H T Ts m' p us:=by
 obtain⟨h1,h2⟩:=bj
 obtain⟨e1,e2⟩:=c8q h2
 refine⟨by rw[←h1];exact h.cells,by rw[←h1];exact h.memc,h.len,by rw[←e1];exact h.rlen,fun j t r u ht hr hu=> ?_⟩
 obtain⟨a,ha,hn,hf⟩:=e2 j r hr
 have:=(h.rows j t a u ht ha hu).le hf
 rwa[hn]at this
theorem FamOK.le{T:TypeId}{Ts:List (TypeId×Nat)}{n:Nat}{br:Option Nat}{F F':Nat→Mem}{ps:List Value}{qs:List (List Value)}(h:FamOK w H T Ts n br F ps qs)(hF:∀i,i<n→(F i).le (F' i)):FamOK w H T Ts n br F' ps qs:=by
 refine⟨h.pl,h.ql,h.nd,fun i hi=> ?_⟩
 obtain⟨b,us,h1,h2,h3⟩:=h.mem i hi
 refine⟨b,us,h1,h2,?_⟩
 rcases h3 with h3|⟨h3,us',rfl,h4⟩
 ·exact .inl h3
 ·exact .inr ⟨h3,us',rfl,h4.le (hF i hi)⟩
theorem Blk.le_sound{n:Nat}{H':Nat→Prop}(hH:∀b,H' b→H b){x:Value}{bl bl':Blk}(h:b19 w H μ x bl)(bj:bl.le n bl'):b19 w H' (cut n μ) x bl':=by
 unfold Blk.le at bj
 split at bj
 ·obtain⟨hc,hl⟩:=bj
  split at hc
  rotate_left
  ·exact hc.elim
  rename_i fa
  obtain⟨rfl,c6⟩:=fa
  obtain⟨h1,h2⟩:=d0r hl
  obtain⟨b,vs,rfl,hh,rk,bu,hd⟩:=h
  refine⟨b,vs,rfl,hh,Dt,bu,fun i s v hs hv=> ?_⟩
  obtain⟨t,ht,tc⟩:=h2 i s hs
  exact c61 hH (c5r (hd i t v ht hv) tc) (J4.1 c6 s (J0 hs))
 ·rename_i T sz k f c T' sz' k' f' c'
  obtain⟨hc,rfl,dh,hf⟩:=bj
  split at hc
  rotate_left
  ·exact hc.elim
  rename_i fa
  obtain⟨rfl,rfl⟩:=fa
  obtain⟨a,m,rfl,hn,hm,j7,hl,b9⟩:=h
  have jt:∀i,i<k→(f' i).length=sz∧(f' i).all SV.pure=true:=fun i hi=>by
   obtain⟨g1,_,g3⟩:=c23 (w:=w) (H:=H) (μ:=μ) (hf i hi)
   exact⟨g1▸(hl i hi).1,g3 (hl i hi).2⟩
  refine⟨a,m,rfl,hn,hm,b5h dh j7,jt,?_⟩
  rcases b9 with h|⟨b,o,vs,c7,rfl,hh,ho,h1,hd⟩
  ·exact .inl h
  ·refine .inr ⟨b,o,vs,c7,rfl,hh,ho,h1,fun i j s v hi hs hv=> ?_⟩
   obtain⟨s0,bv,gy⟩:=(c23 (w:=w) (H:=H) (μ:=μ) (hf i hi)).2.1 j s hs
   exact b0i hH (gy (hd i j s0 v hi bv hv)) (J4.1 (jt i hi).2 s (J0 hs))
 ·obtain⟨⟨rfl,rfl⟩,h1,h2⟩:=bj
  obtain⟨r,g,rfl,hm,hl,hd⟩:=h
  have e:=Mj h1
  subst e
  exact⟨r,g,rfl,hm,fun q hq=>by rw[←h2 q hq];exact hl q hq,fun q i s v hq hs hv=>b1w hH (hd q i s v hq (by rw[h2 q hq];exact hs) hv) (J4.1 (hl q hq).2 s (J0 (by rw[h2 q hq];exact hs)))⟩
 ·obtain⟨hc,rfl,rfl,hF⟩:=bj
  split at hc
  rotate_left
  ·exact hc.elim
  rename_i fa
  obtain⟨rfl,rfl,c6⟩:=fa
  obtain⟨ps,qs,rfl,h,hh⟩:=h
  refine⟨ps,qs,rfl,(h.keep ⟨J2 _,fun _ _ _=>rfl,fun b _=>hH b⟩ (fun _ _=>rfl)).le hF,hh.keep (fun i c p e hc=> ?_)⟩
  have:c<n:=d6f c6 i c e
  simp[cut,this,hc]
 ·obtain⟨hc,h1,h2⟩:=bj
  split at hc
  rotate_left
  ·exact hc.elim
  rename_i fa
  obtain⟨rfl,rfl,h9⟩:=fa
  obtain⟨⟨ps,qs,he⟩,r,g,rfl,hm,hd⟩:=h
  have e:=Mj h1
  subst e
  refine⟨⟨ps,qs,by simp[cut,h9,he]⟩,r,g,rfl,hm,fun q hq=> ?_⟩
  obtain⟨p,e,h⟩:=hd q hq
  rw[h2 q hq]at h
  exact⟨p,e,D.fp_keep (fun ps qs e=>⟨ps,qs,by simp[cut,h9,e],fun _ h=>h⟩) h⟩
 ·obtain⟨hc,rfl,ha,Ny⟩:=bj
  split at hc
  rotate_left
  ·exact hc.elim
  rename_i fa
  obtain⟨rfl,rfl⟩:=fa
  obtain⟨qs,rfl,h⟩:=h
  have h:=h.keep (H':=H') ⟨J2 _,fun _ _ _=>rfl,fun b _=>hH b⟩ (fun _ _=>rfl)
  refine⟨qs,rfl,h.ql,h.nd,fun i hi=> ?_⟩
  rcases h.mem i hi with⟨h1,h2⟩|⟨h1,h2,h3⟩
  ·exact .inl ⟨by rw[←ha i hi];exact h1,h2⟩
  ·obtain⟨e1,e2,e3⟩:=Ny i hi h1
   refine .inr ⟨by rw[←ha i hi];exact h1,by rw[←e1];exact h2,?_⟩
   rw[←e1,←e2]
   exact h3.le e3
 ·exact Ix
 ·exact bj.elim
theorem d4b{n:Nat}{ρ:List Entry}:∀{ρ':List Entry},j1f n ρ ρ'→∀(t:Nat) (e:Entry),b4a t ρ'=some e→e.guard=none∧∃x,b4a t ρ=some x∧x.guard=none∧e.sv.in2 n=true∧x.sv.le2 e.sv
 | [],_=>fun t e h=>by simp[b4a]at h
 |y::r,h=>fun t e he=>by
  simp only[b4a]at he
  split at he
  ·rename_i hs
   cases he
   have h1:=h.1
   split at h1
   ·rename_i x hg hx
    split at h1
    ·rename_i Nz
     obtain⟨c6,bj⟩:=h1
     split at c6
     ·rename_i hin'
      exact⟨hg,x,by rw[←hs];exact hx,Nz,hin',bj⟩
     ·exact c6.elim
    ·exact h1.elim
   ·exact h1.elim
  ·exact d4b h.2 t e he
def ancB(E:Env)(st:St):Bool:=decide (E.na≤st.own.length)
theorem c4y{E:Env}{B0:Nat}{X A:Nat→Prop}{w0:World}{nt:Nat}{st st':St}{a:Act}(h:SD E B0 X A w0 nt st a w μ)(hm:f5m st st')(gq:ancB E st'=true):∃μ',SD E B0 X A w0 nt st' a w μ':=by
 obtain⟨gt,d5⟩:=hm
 have hH:∀b,held A (cut st'.own.length μ) b→held A μ b:=by
  intro b hb
  rcases hb with hb|⟨k,x,hk,hx⟩
  ·exact .inl hb
  ·refine .inr ⟨k,x,?_,hx⟩
   unfold cut at hk
   split at hk
   ·exact hk
   ·cases hk
 have mr:∀{k x},cut st'.own.length μ k=some x→k<st'.own.length∧μ k=some x:=by
  intro k x hk
  unfold cut at hk
  split at hk
  ·exact⟨‹_›,hk⟩
  ·cases hk
 refine⟨cut st'.own.length μ,⟨fun k x hk=> ?_,fun k k' x x' b hk cm=>h.own.inj k k' x x' b (mr hk).2 (mr cm).2,fun k x b hk=>h.own.rng k x b (mr hk).2,h.own.bnd⟩,h.fr,h.base,
  fun g s hg=>⟨(h.glo g s hg).1,b0i hH (h.glo g s hg).2 (h.glo g s hg).1⟩,h.dfr,h.size,fun t e he=> ?_,fun k hk=>by unfold cut;rw[if_neg Dt],fun j x hx=>by
   have h1:=Env.ak_lt (Env.an_ak hx)
   have h2:E.na≤st'.own.length:=by simpa[ancB]using gq
   unfold cut
   rw[Iw Dt]
   exact h.anc j x hx⟩
 ·obtain⟨h9,hk⟩:=mr hk
  obtain⟨bl,e1,hb⟩:=h.own.blk k x hk
  obtain⟨b,e2,bj⟩:=c15 gt k _ (Iv h9)
  rw[e1]at e2
  cases e2
  exact⟨_,Iv h9,Blk.le_sound hH hb bj⟩
 ·obtain⟨hg,x,hx,Nz,c6,bj⟩:=d4b d5 t e he
  have:=h.env t x hx
  unfold b0d at this⊢
  rw[Nz]at this
  rw[hg]
  simp only at this⊢
  rw[b1a hx]at this
  rw[b1a he]
  exact d3s hH (b37 this bj) c6
end
def f5u(E:Env)(own:List Blk)(ρ:Operand→Option SV)(op:Op):Option (Prop×SV×Blk):=
 match op with
 |.call c=>match c.callee with
  |.value f=>match ρ f with
   |some (.clo fid [])=>match E.Hc fid with
    |some h=>match c.args.toList.mapM ρ with
     |some xs=>match xs.all SV.pure with
      |true=>match h xs []with
       |some r=>match r.own with
        | [b]=>some (r.pre,r.res.ren2 (fun k=>some (own.length+k)),b.ren (fun k=>some (own.length+k)))
        |_=>none
       |none=>none
      |false=>none
     |none=>none
    |none=>none
   |_=>none
  |_=>none
 |_=>none
section
variable {E : Env} {B0 : Nat} {X A : Nat → Prop} {a : Act} {w : World} {μ : Mu}
theorem f4c(hC:b1u E){own ownN:List Blk}(hO:Own B0 X A w μ ownN)(hB:B0≤w.heap.size)(hk:μ own.length=none)(c9:∀g s,E.glob g=some s→s.pure=true∧D w (held A μ) μ s (.pointer (some ⟨g,0,none⟩)))
 {ρ:Operand→Option SV} (hρ:∀(x:Operand) (s:SV),ρ x=some s→D w (held A μ) μ s (a.eval x)) {o:Oper} {pre:Prop} {s:SV} {b:Blk} (he:f5u E own ρ o.op=some (pre,s,b)) (hp:pre) (cx:ownN[own.length]?=some b):
 ∃f vals,(execOp a.eval o).run E.P w=.ok (.enter f vals) w∧Calls E.P f vals w fun e w'=>∃v μ',e=.returned v∧After B0 X A w w' μ μ' ownN∧(∀j,j≠own.length→μ' j=μ j)∧D w' (held A μ') μ' s v:=by
 unfold f5u at he
 split at he
 rotate_left
 ·cases he
 rename_i c cn
 split at he
 rotate_left
 ·cases he
 rename_i f hf
 split at he
 rotate_left
 ·cases he
 rename_i fid hρf
 split at he
 rotate_left
 ·cases he
 rename_i h nf
 split at he
 rotate_left
 ·cases he
 rename_i xs gn
 split at he
 rotate_left
 ·cases he
 rename_i pq
 split at he
 rotate_left
 ·cases he
 rename_i r hr
 split at he
 rotate_left
 ·cases he
 rename_i b0 sb
 simp only[Ib]at he
 obtain⟨rfl,rfl,rfl⟩:=he
 have fe:=hρ _ _ hρf
 generalize rc:a.eval f=vf at fe
 obtain⟨⟨fn,h1,h2,h3⟩,hS⟩:=hC.2.2 fid h nf
 cases fe with
 |clo cvs d9 n9=>
 have pu:cvs=[]:=Lg.1 d9
 subst pu
 have hD:=b3n (a:=a) hρ gn
 have hm:c.args.map a.eval=(c.args.toList.map a.eval).toArray:=Ex
 have bi:(execOp a.eval o).run E.P w=.ok (.enter fid (c.args.toList.map a.eval).toArray) w:=by
  simp only[execOp,cn,resolve,hf,rc,Deferred.ofValue,hm,Ic,invoke,callFunc,run_program,h1,h2,Ij,h3]
  simp
 have bp:∀b,held (held A μ) (fun _=>none) b→held A μ b:=by
  rintro b (hb|⟨j,x,hj,_⟩)
  ·exact hb
  ·cases hj
 have Q6:∀b,held A μ b→b<w.heap.size:=by
  rintro b (hb|⟨k,x,hk,hx⟩)
  ·exact hO.bnd b hb
  ·exact(hO.rng k x b hk hx).1
 have Nq:Own 0 (fun _=>True) (held A μ) w (fun _=>none) []:=⟨fun k x hx=>(by cases hx),fun k k' x x' b hx=>(by cases hx),fun k x b hx=>(by cases hx),Q6⟩
 have Nr:DL w (held (held A μ) (fun _=>none)) (fun _=>none) xs (c.args.toList.map a.eval):=⟨hD.1,fun i s v hs hv=>b1w bp (hD.2 i s v hs hv) (J4.1 pq s (J0 hs))⟩
 have pn:∀g t,E.glob g=some t→t.pure=true∧D w (held (held A μ) (fun _=>none)) b0a t (.pointer (some ⟨g,0,none⟩)):=fun g t hg=>⟨(c9 g t hg).1,b0i bp (c9 g t hg).2 (c9 g t hg).1⟩
 refine⟨fid,_,bi,(hS (held A μ) w xs _ [] (fun _=>none) r Q6 pn Nq (fun _ _=>rfl) Nr hr hp).mono ?_⟩
 rintro e w' ⟨v,μ',rfl,gp,rd,dn,_,bg⟩
 rw[sb]at gp rd
 have gh:∀b,¬b7t (fun _=>none) b:=by
  rintro b ⟨k,x,hx,_⟩
  cases hx
 have dp:∀{x b},μ' 0=some x→Has x b→b<w'.heap.size∧¬held A μ b∧w.heap.size≤b:=by
  intro x b hx hb
  obtain⟨r1,r2,r3⟩:=gp.rng 0 x b hx hb
  refine⟨r1,r2,?_⟩
  rcases r3 with r3|r3
  ·exact r3
  ·exact(gh b r3).elim
 refine⟨v,fun k=>if k=own.length then μ' 0 else μ k,rfl,?_⟩
 generalize hμ2:(fun k=>if k=own.length then μ' 0 else μ k:Mu)=μ2
 have c1:μ2 own.length=μ' 0:=by rw[←hμ2];simp
 have c2:∀{k},k≠own.length→μ2 k=μ k:=fun hk=>by rw[←hμ2];simp[hk]
 have g9:∀b,held A μ2 b→held (held A μ) μ' b:=by
  rintro b (hA|⟨k,x,hx,hb⟩)
  ·exact .inl (.inl hA)
  ·by_cases e:k=own.length
   ·rw[e,c1]at hx;exact .inr ⟨0,x,hx,hb⟩
   ·rw[c2 e]at hx;exact .inl (.inr ⟨k,x,hx,hb⟩)
 have jn:∀k j x,(fun k=>some (own.length+k)) k=some j→μ' k=some x→μ2 j=some x:=by
  intro k j x hj hx
  simp only[Jh]at hj
  subst hj
  cases k with
  |zero=>rw[Kz,c1];exact hx
  |succ k=>rw[rd (k+1) Dv]at hx;cases hx
 have c8:Keeps w w' (held A μ) (held A μ2) μ μ2:=by
  refine⟨bg.size,fun b hb _=>bg.block b hb (gh b),fun b hb hh=> ?_,fun k x hx=> ?_⟩
  ·rcases hh with hA|⟨k,x,hx,Mr⟩
   ·exact .inl hA
   ·by_cases e:k=own.length
    ·rw[e,c1]at hx
     have:=(dp hx Mr).2.2
     omega
    ·rw[c2 e]at hx;exact .inr ⟨k,x,hx,Mr⟩
  ·have e:k≠own.length:=fun e=>by rw[e,hk]at hx;cases hx
   rw[c2 e];exact hx
 refine⟨⟨⟨fun k x hx=> ?_,fun k k' x x' b hx d4 hb r9=> ?_,fun k x b hx hb=> ?_,fun b hb=>Jd (hO.bnd b hb) bg.size⟩,⟨bg.os,bg.tape,bg.output,bg.drawn,bg.size,fun i hi _=>bg.block i (Jd hi hB) (gh i)⟩,c8⟩,fun j hj=>c2 hj,b95 g9 jn dn⟩
 ·by_cases e:k=own.length
  ·subst e
   rw[c1]at hx
   obtain⟨bl,e1,b6⟩:=gp.blk 0 x hx
   simp only[List.getElem?_cons_zero,Jh]at e1
   subst e1
   exact⟨_,cx,b6.ren g9 jn⟩
  ·rw[c2 e]at hx
   obtain⟨bl,e1,b6⟩:=hO.blk k x hx
   exact⟨bl,e1,b6.keep c8 (fun b hb=>bg.block b (hO.rng k x b hx hb).1 (gh b))⟩
 ·by_cases e:k=own.length<;>by_cases e':k'=own.length
  ·rw[e,e']
  ·rw[e,c1]at hx;rw[c2 e']at d4
   exact((dp hx hb).2.1 (.inr ⟨k',x',d4,r9⟩)).elim
  ·rw[e',c1]at d4;rw[c2 e]at hx
   exact((dp d4 r9).2.1 (.inr ⟨k,x,hx,hb⟩)).elim
  ·rw[c2 e]at hx;rw[c2 e']at d4
   exact hO.inj k k' x x' b hx d4 hb r9
 ·by_cases e:k=own.length
  ·rw[e,c1]at hx
   obtain⟨r1,r2,r3⟩:=dp hx hb
   exact⟨r1,fun hA=>r2 (.inl hA),.inl (L3 hB r3)⟩
  ·rw[c2 e]at hx
   obtain⟨r1,r2,r3⟩:=hO.rng k x b hx hb
   exact⟨Jd r1 bg.size,r2,r3⟩
end
def b35(o:Oper)(j:Nat):Bool:=o.after.toList.any fun e=>Region.binds .any e&&e.on==j
def c3b(ops:Array Oper):Nat→Option (Nat×Bool)→List Nat
 |0,_=>[]
 |_,none=>[]
 |n+1,some (j,_)=>match ops[j]? with
  |some o=>match o.dst with
   |some d=>d::c3b ops n o.guard
   |none=>c3b ops n o.guard
  |none=>[]
def b3v(ops:Array Oper)(o:Oper):List Nat:=(o.op.operands.toList.filterMap fun x=>match x with|.tmp t=>some t|_=>none)++c3b ops 6 o.guard
def b60(ks:List Nat)(o:Oper):Nat:=
 if o.after.toList.any fun e=>Region.binds .any e&&ks.getD e.on 0==2 then 2 else match o.op with
 |.store _ _ _=>1
 |.call {callee:=.builtin .append,..}=>2
 |.mapUpdate _ _ _ _|.insert _ _ _ _=>2
 |.call {callee:=.builtin .delete,..}|.call {callee:=.builtin .copy,..}|.call {callee:=.builtin .clear,..}=>2
 |_=>0
def reach1(o:Oper)(rs:List Nat):Nat:=o.after.toList.foldl (fun m e=>if Region.binds .any e then m|||1 <<< e.on|||rs.getD e.on 0 else m) 0
def d2r:List Oper→List Nat→List Nat
 | [],rs=>rs
 |o::l,rs=>d2r l (rs++[reach1 o rs])
def f9u(ops:Array Oper):List Nat:=d2r ops.toList []
inductive Reach (ops:Array Oper):Nat→Nat→Prop
 |one {i j:Nat} {o:Oper} (h:ops[i]?=some o) (hw:b35 o j=true):Reach ops i j
 |more {i j k:Nat} {o:Oper} (h:ops[i]?=some o) (hw:b35 o k=true) (hr:Reach ops k j):Reach ops i j
theorem d83(l:List Edge)(rs:List Nat):∀(m j:Nat),(l.foldl (fun m e=>if Region.binds .any e then m|||1 <<< e.on|||rs.getD e.on 0 else m) m).testBit j=true→m.testBit j=true∨∃e∈l,Region.binds .any e=true∧(e.on=j∨(rs.getD e.on 0).testBit j=true):=by
 induction l with
 |nil=>intro m j h;exact .inl h
 |cons e l ih=>
  intro m j h
  simp only[Mi]at h
  rcases ih _ j h with h|⟨e',dw,hb⟩
  ·split at h
   ·rename_i hb
    simp only[Nat.testBit_or,Jy]at h
    rcases h with(h|h)|h
    ·exact .inl h
    ·refine .inr ⟨e,Dv,hb,.inl ?_⟩
     rw[Nat.testBit_shiftLeft]at h
     simp only[Ih]at h
     have:=h.2
     match hk:j-e.on with
     |0=>omega
     |n+1=>
      rw[hk,Nat.testBit_succ]at this
      simp at this
    ·exact .inr ⟨e,Dv,hb,.inr h⟩
   ·exact .inl h
  ·exact .inr ⟨e',by simp[dw],hb⟩
theorem d5h(ops:Array Oper):∀(l:List Oper) (rs:List Nat),(∀k,l[k]?=ops[rs.length+k]?)→(∀i j,i<rs.length→(rs.getD i 0).testBit j=true→Reach ops i j)→∀i j,((d2r l rs).getD i 0).testBit j=true→Reach ops i j:=by
 intro l
 induction l with
 |nil=>
  intro rs _ h i j hj
  by_cases hi:i<rs.length
  ·exact h i j hi hj
  ·rw[d2r,It,L0 Dt]at hj
   simp at hj
 |cons o l ih=>
  intro rs hl h
  refine ih _ (fun k=> ?_) (fun i j hi hj=> ?_)
  ·have:=hl (k+1)
   simp only[Ks]at this
   rw[this,Jj]
   congr 1
   simp only[K3,Lw]
   omega
  ·by_cases b7:i<rs.length
   ·rw[It,J6 b7,←It]at hj
    exact h i j b7 hj
   ·have be:i=rs.length:=by simp at hi;omega
    subst be
    rw[It,Jr (J2 _)]at hj
    simp only[Lv,List.getElem?_cons_zero,K6]at hj
    have ho:ops[rs.length]?=some o:=by
     have:=hl 0
     simpa using this.symm
    rcases d83 _ _ _ _ hj with h0|⟨e,he,hb,hc⟩
    ·simp at h0
    ·have hw:b35 o e.on=true:=by
      simp only[b35,Jc,In]
      exact⟨e,he,hb,rfl⟩
     rcases hc with rfl|hc
     ·exact .one ho hw
     ·by_cases hon:e.on<rs.length
      ·exact .more ho hw (h _ _ hon hc)
      ·rw[It,L0 Dt]at hc
       simp at hc
theorem b76{ops:Array Oper}{i j:Nat}(h:((f9u ops).getD i 0).testBit j=true):Reach ops i j:=
 d5h ops ops.toList [] (fun k=>Dv) (fun i j hi=>by simp at hi) i j h
def c1d(ks:List Nat)(o:Oper):Nat:=
 if b60 ks o==2 then 2 else match o.op with
 |.call {callee:=.value _,..}=>2
 |_=>b60 ks o
def f9j(o:Oper):Bool:=match o.op with
 |.call {callee:=.value (.tmp _),..}=>true
 |_=>false
def c1k(ks:List Nat)(o:Oper):Nat:=
 if b60 ks o==2 then 2 else match f9j o with
 |true=>1
 |false=>if o.after.toList.any fun e=>Region.binds .any e&&ks.getD e.on 0==1 then(match o.op with
  |.store _ _ _=>1
  |_=>2)else b60 ks o
def b9t(o:Oper):Option (Nat×Nat):=match o.op,o.guard,o.dst with
 |.move (.tmp s),none,some d=>some (s,d)
 |_,_,_=>none
def f8c(ops:Array Oper)(ks rm:List Nat)(x:Oper×Nat):Bool:=match b9t x.1 with
 |some (s,d)=>ops.toList.zipIdx.all fun y=>y.1.dst !=some s&&(!(b3v ops y.1).contains d||(ks.getD y.2 0==2&&(rm.getD y.2 0).testBit x.2))
 |none=>false
def g9b(ops:Array Oper)(ks:List Nat):List Nat:=match ks.all (fun k=>k !=2)with
 |true=>ks
 |false=>let rm:=f9u ops
  ops.toList.zipIdx.map fun x=>if ks.getD x.2 0==0&&(ops.toList.zipIdx.any fun y=>ks.getD y.2 0==2&& !(rm.getD y.2 0).testBit x.2)&&f8c ops ks rm x then 3 else ks.getD x.2 0
def f8z(ops:Array Oper)(ks:List Nat):Bool:=
 let l:=ops.toList.zipIdx
 let rm:=f9u ops
 l.all (fun x=>x.1.after.toList.all fun e=> !Region.binds .any e||decide (e.on<x.2))&&
 c1v (l.filterMap fun x=>x.1.dst)&&
 l.all (fun x=>ks.getD x.2 0==2||(b3v ops x.1).all fun t=>l.all fun y=>y.2==x.2||y.1.dst !=some t||(if y.2<x.2&&ks.getD y.2 0==0 then(rm.getD x.2 0).testBit y.2 else(rm.getD y.2 0).testBit x.2))&&
 l.all (fun x=>ks.getD x.2 0 !=1||((x.1.dst==none||f9j x.1)&&x.1.guard.isNone&&l.all fun y=> !(decide (y.2<x.2)&&ks.getD y.2 0==1)||b35 x.1 y.2))&&
 l.all (fun x=>match x.1.guard with|some (j,_)=>b35 x.1 j|none=>true)&&
 l.all (fun x=>ks.getD x.2 0 !=2||l.all fun y=>y.2==x.2||(ks.getD y.2 0==2&&decide (x.2<y.2))||ks.getD y.2 0==3||(rm.getD x.2 0).testBit y.2)&&
 l.all (fun x=>ks.getD x.2 0 !=3||f8c ops ks rm x)
def f79(b:Nat)(ops:Array Oper):List Nat:=ops.toList.foldl (fun ks o=>ks++[match b with|0=>b60 ks o|1=>c1d ks o|_=>c1k ks o]) []
def kinds(b:Nat)(ops:Array Oper):List Nat:=g9b ops (f79 b ops)
def c9i(b:Nat)(ops:Array Oper):Bool:=f8z ops (kinds b ops)
def b2q(b:Nat)(ops:Array Oper)(k:Nat):List (Oper×Nat):=ops.toList.zipIdx.filter fun x=>(kinds b ops).getD x.2 0==k
def d3k(b:Nat)(ops:Array Oper):List ((Oper×Nat)×List (Oper×Nat)):=(b2q b ops 2).map fun x=>(x,(b2q b ops 3).filter fun f=>match f.1.dst with|some d=>(b3v ops x.1).contains d|none=>false)
def b4m(b:Nat)(ops:Array Oper):List Nat:=(b2q b ops 3).filterMap (·.1.dst)
def b1m(ns:List Nat)(ρ:List Entry):List Entry:=ρ.filter fun e=>ns.contains e.slot
def c9y(E:Env)(nt:Nat)(ops:Array Oper)(ρ:List Entry)(own:List Blk)(o:Oper):Option (Prop×Option Entry×Option Blk):=
 if !b7m nt o.dst then none else
 match o.guard with
 |some (j,p)=>match o.dst,(ops[j]?).bind (·.dst)with
  |some d,some g=>if g<nt∧g≠d then(b6q ρ 5 g p).bind fun c=>(c0x E ⟨ρ,own⟩ (some (g,p)) o.op).map fun r=>(c→r.1,some ⟨d,some (g,p),r.2⟩,none)else none
  |_,_=>none
 |none=>match o.op with
  |.store _ _ _=>none
  |.alloc _|.box _ _|.buildSlice _ _ _|.makeSlice _ _ _=>(g36 E.P own (opd E ρ none) o.op).map fun r=>(r.1,o.dst.map (fun d=>⟨d,none,r.2.1⟩),some r.2.2)
  |.makeMap T r=>(f1m E (opd E ρ none) T r).map fun b=>(True,o.dst.map (fun d=>⟨d,none,.omp own.length⟩),some b)
  |op=>match f5u E own (opd E ρ none) op with
   |some r=>some (r.1,o.dst.map (fun d=>⟨d,none,r.2.1⟩),some r.2.2)
   |none=>(c0x E ⟨ρ,own⟩ none op).map fun r=>(r.1,o.dst.map (fun d=>⟨d,none,r.2⟩),none)
def b4s(w:World)(H:Nat→Prop)(μ:Mu)(tmps:Array Value):Option Entry→Prop
 |none=>True
 |some e=>b0d w H μ tmps e
section
variable {E : Env} {B0 : Nat} {X A : Nat → Prop} {nt : Nat} {a : Act} {w : World} {μ : Mu}
theorem d6h(hE:EnvOK E)(hC:b1u E){ρ:List Entry}{own ownN:List Blk}(hO:Own B0 X A w μ ownN)(hB:B0≤w.heap.size)(ba:∀(k:Nat) (bl:Blk),own[k]?=some bl→ownN[k]?=some bl)(c9:∀g s,E.glob g=some s→s.pure=true∧D w (held A μ) μ s (.pointer (some ⟨g,0,none⟩)))
 (d5:b9j w (held A μ) μ a.tmps ρ) (bk:a.tmps.size=nt) {ops:Array Oper} {o:Oper} {pre:Prop} {out:Option Entry} {bl:Option Blk} (he:c9y E nt ops ρ own o=some (pre,out,bl)) (hp:pre)
 (cx:∀b,bl=some b→μ own.length=none∧ownN[own.length]?=some b) {K:Act→World→Prop} {Q:Exit→Act→World→Prop}
 (hK:∀v w' μ',After B0 X A w w' μ μ' ownN→(∀j,(bl.isSome=true→j≠own.length)→μ' j=μ j)→b4s w' (held A μ') μ' (a.put o.dst v).tmps out→K (a.put o.dst v) w'):
 (out.map (·.slot)=o.dst∨out=none∧o.dst=none)∧if Region.wanted o (yielded ops a.tmps)then o.wp E.P a w K Q else K (a.put o.dst undef) w:=by
 unfold c9y at he
 split at he
 ·cases he
 rename_i dy
 have hd:b7m nt o.dst=true:=by simpa using dy
 have calls:∀{w':World},Fr w.heap.size (fun _=>False) w w'→After B0 X A w w' μ μ ownN:=fun bg=>
  ⟨hO.calls bg,⟨bg.os,bg.tape,bg.output,bg.drawn,bg.size,fun i hi _=>bg.block i (Jd hi hB) (fun h=>h)⟩,bg.keeps⟩
 split at he
 ·rename_i j p jh
  split at he
  rotate_left
  ·cases he
  rename_i d g nc wk
  split at he
  rotate_left
  ·cases he
  rename_i h9
  obtain⟨h9,bb⟩:=h9
  simp only[J3,Ia]at he
  obtain⟨c,hc,⟨p0,s⟩,hs,rfl,rfl,rfl⟩:=he
  have fg:d<a.tmps.size:=by rw[bk];simpa[b7m,nc]using hd
  have hw:=c9v (a:=a) jh wk (by rw[bk];exact h9)
  refine⟨.inl (by simp[nc]),?_⟩
  split
  ·rename_i g8
   have hb:=hw.1 g8
   have j7:=b8m d5 5 g p c hc hb
   refine c0e hE hC hO ba c9 d5 (g:=some (g,p)) (fun q b e=>by cases e;exact hb) hs (hp j7) (fun v w' hv bg=>hK v w' μ (calls bg) (fun _ _=>rfl) ?_)
   rw[nc]
   unfold b4s b0d Act.put
   simp only
   rw[b23 fg,b23 fg,Iw rfl,Iy bb]
   exact⟨fun _=>hv,fun hn=>absurd hb hn⟩
  ·rename_i g8
   have hb:¬a.tmps.getD g undef=.bool p:=fun hb=>g8 (hw.2 hb)
   refine hK undef w μ (calls (Fr.refl _ _ _)) (fun _ _=>rfl) ?_
   rw[nc]
   unfold b4s b0d Act.put
   simp only
   rw[b23 fg,b23 fg,Iw rfl,Iy bb]
   exact⟨fun hh=>absurd hh hb,fun _=>rfl⟩
 ·rename_i jh
  rw[Iw Es]
  have put:∀{w':World} {μ':Mu} {s:SV} {v:Value},D w' (held A μ') μ' s v→b4s w' (held A μ') μ' (a.put o.dst v).tmps (o.dst.map fun d=>⟨d,none,s⟩):=by
   intro w' μ' s v hv
   cases nc:o.dst with
   |none=>exact Ix
   |some d=>
    have fg:d<a.tmps.size:=by rw[bk];simpa[b7m,nc]using hd
    simp only[K7]
    unfold b4s b0d Act.put
    simp only
    rw[b23 fg,Iw rfl]
    exact hv
  have slot:∀s:SV,((o.dst.map fun d=>(⟨d,none,s⟩:Entry)).map (·.slot)=o.dst∨(o.dst.map fun d=>(⟨d,none,s⟩:Entry))=none∧o.dst=none):=by
   intro s;cases o.dst<;>simp
  split at he
  ·cases he
  iterate 4
   ·simp only[Ia]at he
    obtain⟨⟨p0,s,b⟩,hn,rfl,rfl,rfl⟩:=he
    obtain⟨h1,h2⟩:=cx b rfl
    obtain⟨r,w',μ',hr,ha,hμ,hv⟩:=d3a hO hB h1 (b6m (fun n s hn=>(c9 n s hn).2) d5 (fun q b e=>E4)) hn hp h2
    refine⟨slot s,?_⟩
    unfold Oper.wp
    rw[hr]
    exact hK r w' μ' ha (fun j hj=>hμ j (hj rfl)) (put hv)
  ·rename_i T r0 cn
   simp only[Ia]at he
   obtain⟨b,hn,rfl,rfl,rfl⟩:=he
   obtain⟨h1,h2⟩:=cx b rfl
   obtain⟨r,w',μ',hr,ha,hμ,hv⟩:=b9n hE hO hB h1 (b6m (fun n s hn=>(c9 n s hn).2) d5 (fun q b e=>E4)) cn hn h2
   refine⟨slot _,?_⟩
   unfold Oper.wp
   rw[hr]
   exact hK r w' μ' ha (fun j hj=>hμ j (hj rfl)) (put hv)
  ·split at he
   ·rename_i r hn
    simp only[Ib]at he
    obtain⟨rfl,rfl,rfl⟩:=he
    obtain⟨h1,h2⟩:=cx _ rfl
    obtain⟨f,vals,bi,hc⟩:=f4c hC hO hB h1 c9 (b6m (fun n s hn=>(c9 n s hn).2) d5 (fun q b e=>E4)) hn hp h2
    refine⟨slot _,?_⟩
    unfold Oper.wp
    rw[bi]
    refine hc.mono ?_
    rintro e w' ⟨v,μ',rfl,ha,hμ,hv⟩
    exact hK v w' μ' ha (fun j hj=>hμ j (hj rfl)) (put hv)
   ·simp only[Ia]at he
    obtain⟨⟨p0,s⟩,hs,rfl,rfl,rfl⟩:=he
    refine⟨slot s,?_⟩
    exact c0e hE hC hO ba c9 d5 (g:=none) (fun q b e=>E4) hs hp (fun v w' hv bg=>hK v w' μ (calls bg) (fun _ _=>rfl) (put hv))
end
structure PI where
 o:Oper
 i:Nat
 own:List Blk
 out:Option Entry
 al:Option Blk
def b4i(ds:List Nat)(e:Entry):Entry:=match e.guard with
 |some (g,_)=>if ds.contains g then {e with guard:=none,sv:=.any}else e
 |none=>e
def c84(out:Option Entry)(es:List Entry):List Entry:=match out with
 |some e=>e::es
 |none=>es
def fO(o:Option Entry)(K:Option Entry→Prop):Prop:=match o with
 |none=>K none
 |some ⟨n,g,s⟩=>fG g fun g=>s.f2 fun s=>K (some ⟨n,g,s⟩)
theorem fO_eq(o:Option Entry)(K:Option Entry→Prop):fO o K=K o:=by
 match o with
 |none=>rfl
 |some ⟨n,g,s⟩=>simp only[fO,g6w,SV.f2_eq]
def fA(own:List Blk)(al:Option Blk)(K:Option Blk→List Blk→Prop):Prop:=match al with
 |none=>K none own
 |some b=>fB (own++[b]) fun own'=>K (some b) own'
theorem fA_eq(own:List Blk)(al:Option Blk)(K:Option Blk→List Blk→Prop):fA own al K=K al (own++al.toList):=by
 cases al
 ·simp[fA]
 ·simp[fA,f39]
def parK(E:Env)(nt:Nat)(ops:Array Oper)(ρ0:List Entry)(K:List PI→List Entry→List Blk→Prop):List (Oper×Nat)→List PI→List Entry→List Blk→Prop
 | [],done,es,own=>K done es own
 |(o,i)::r,done,es,own=>match c9y E nt ops (b1m (b3v ops o) (es++ρ0)) own o with
  |some (p,out,al)=>Ask p∧fO out fun out=>fA own al fun al own'=>parK E nt ops ρ0 K r (⟨o,i,own,out,al⟩::done) (c84 out es) own'
  |none=>False
def b6w(ps:List PI)(i:Nat):List Entry:=(ps.filter fun q=>decide (q.i<i)).filterMap (·.out)
def f50(E:Env)(nt:Nat)(ops:Array Oper)(ρ0:List Entry)(ps:List PI)(sd:List Oper)(own:List Blk):List PI→Prop
 | []=>True
 |q::r=>if sd.any (fun s=>b35 s q.i)then f50 E nt ops ρ0 ps sd own r else match c9y E nt ops (b1m (b3v ops q.o) (b6w ps q.i++ρ0)) own q.o with
  |some (p,out,none)=>Ask p∧g2f out q.out∧f50 E nt ops ρ0 ps sd own r
  |_=>False
def f2s(E:Env)(nt nb:Nat)(ρ:List Entry)(own:List Blk)(o:Oper):Option (Prop×List Blk×Option Entry):=match o.op with
 |.store T p x=>(opd E ρ none p).bind fun sp=>(opd E ρ none x).bind fun sx=>(c0d E.P own T sp sx).bind fun r=>match o.dst with
  |none=>some (r.1,r.2,none)
  |some _=>none
 |_=>match d0w E own (opd E ρ none) o.op with
  |some (p,s,own',[])=>match Nat.beq own.length nb&&Nat.beq own'.length nb&&b7m nt o.dst with
   |true=>some (p,own',o.dst.map fun d=>⟨d,none,s⟩)
   |false=>none
  |_=>none
def d2s(E:Env)(nt nb:Nat)(ops:Array Oper)(ρ0:List Entry)(ps:List PI)(K:List Entry→List Blk→Prop):List (Oper×Nat)→List Oper→List Entry→List Blk→Prop
 | [],_,xs,own=>K xs own
 |(o,i)::r,sd,xs,own=>match f2s E nt nb (b1m (b3v ops o) (b6w ps i++ρ0)) own o with
  |some (p,own',out)=>Ask p∧fO out fun out=>fB own' fun own'=>f50 E nt ops ρ0 ps (o::sd) own' ps∧d2s E nt nb ops ρ0 ps K r (o::sd) (c84 out xs) own'
  |none=>False
def g3u(ds:List Nat)(ρ:List Entry):List Entry:=(ρ.filter fun e=> !ds.contains e.slot).map (b4i ds)
def g59(E:Env)(c:Nat)(nt:Nat)(ops:Array Oper)(ds:List Nat)(K:St→Prop):List ((Oper×Nat)×List (Oper×Nat))→St→Prop
 | [],st=>f3b E nt ops K ((b2q c ops 3).map (·.1)) st
 |g::r,st=>f3b E nt ops (fun st=>St.force ⟨g3u ds st.ρ,st.own⟩ (g59 E c nt ops ds K r)) (g.2.map (·.1)++[g.1.1]) st
def g11(E:Env)(c:Nat)(nt:Nat)(ops:Array Oper)(K:St→Prop)(st:St):Prop:=match b4m c ops with
 | []=>f3b E nt ops K ((b2q c ops 2).map (·.1)) st
 |d::ds=>St.force ⟨g3u (d::ds) st.ρ,st.own⟩ (g59 E c nt ops (d::ds) K (d3k c ops))
def kb(c:Bool)(ops:Array Oper):Nat:=match c with
 |true=>match c9i 1 ops with
  |true=>1
  |false=>match c9i 2 ops with
   |true=>2
   |false=>0
 |false=>0
def j38(E:Env)(nt:Nat)(ops:Array Oper)(K:St→Prop)(st:St):Prop:=g1v (kb E.c2 ops) fun c=>
 let ρ0:=(st.ρ.filter fun e=> !(b4m c ops).contains e.slot).map (b4i (ops.toList.filterMap (·.dst)))
 fE ρ0 fun ρ0=>parK E nt ops ρ0 (fun ps es own=>d2s E nt st.own.length ops ρ0 ps (fun xs own=>g11 E c nt ops K ⟨xs++(es++ρ0),own⟩) (b2q c ops 1) [] [] own) (b2q c ops 0) [] [] st.own
def b80(ps:List PI)(ρ0:List Entry)(i:Nat)(ρ:List Entry):Prop:=
 ∀t e,b4a t ρ=some e→(∃q∈ps,q.i<i∧q.out=some e)∨(b4a t ρ0=some e∧∀q∈ps,q.i<i→∀e',q.out=some e'→e'.slot≠t)
theorem c4d{t:Nat}:∀(l r:List Entry),b4a t (l++r)=match b4a t l with|some e=>some e|none=>b4a t r
 | [],r=>rfl
 |x::l,r=>by
  simp only[L2,b4a]
  split
  ·rfl
  ·exact c4d l r
theorem c1n{t:Nat}:∀{l:List Entry},b4a t l=none↔∀e∈l,e.slot≠t
 | []=>by simp[b4a]
 |x::l=>by
  simp only[b4a,J8,forall_eq_or_imp]
  split
  ·rename_i h;simp[h]
  ·rename_i h;rw[c1n];simp[h]
theorem b2e{t:Nat}{e:Entry}:∀{l:List Entry},b4a t l=some e→e∈l
 | [],h=>by simp[b4a]at h
 |x::l,h=>by
  simp only[b4a]at h
  split at h
  ·cases h;simp
  ·exact Ju _ (b2e h)
theorem c6m{ps:List PI}{ρ0 es:List Entry}{i:Nat}(h1:∀e∈es,∃q∈ps,q.i<i∧q.out=some e)(h2:∀q∈ps,q.i<i→∀e,q.out=some e→e∈es):b80 ps ρ0 i (es++ρ0):=by
 intro t e he
 rw[c4d]at he
 split at he
 ·rename_i x hx
  cases he
  exact .inl (h1 _ (b2e hx))
 ·rename_i hn
  exact .inr ⟨he,fun q hq hi e' dw=>c1n.1 hn e' (h2 q hq hi e' dw)⟩
theorem b9p{ps:List PI}{ρ0:List Entry}{i:Nat}:b80 ps ρ0 i (b6w ps i++ρ0):=by
 refine c6m (fun e he=> ?_) (fun q hq hi e he=> ?_)
 ·simp only[b6w,Mk,Kg,Jz]at he
  obtain⟨q,⟨hq,hi⟩,ho⟩:=he
  exact⟨q,hq,hi,ho⟩
 ·simp only[b6w,Mk,Kg,Jz]
  exact⟨q,⟨hq,hi⟩,he⟩
structure ParOK (E:Env) (nt:Nat) (ops:Array Oper) (ρ0:List Entry) (base own0:List Blk) (ps:List PI):Prop where
 step:∀q∈ps,∃ρ p,b80 ps ρ0 q.i ρ∧c9y E nt ops (b1m (b3v ops q.o) ρ) q.own q.o=some (p,q.out,q.al)∧p
 sub:∀q∈ps,(∀(k:Nat) (bl:Blk),q.own[k]?=some bl→own0[k]?=some bl)∧∀b,q.al=some b→own0[q.own.length]?=some b
 low:∀q∈ps,base.length≤q.own.length
 one:∀q∈ps,∀q'∈ps,q.al.isSome=true→q'.al.isSome=true→q.own.length=q'.own.length→q.i=q'.i
 base:∀(k:Nat) (bl:Blk),base[k]?=some bl→own0[k]?=some bl
 top:∀q∈ps,q.al.isSome=true→q.own.length<own0.length
theorem j3c{E:Env}{nt:Nat}{ops:Array Oper}{ρ0:List Entry}{base:List Blk}{K:List PI→List Entry→List Blk→Prop}:∀(l:List (Oper×Nat)) (done:List PI) (es:List Entry) (own:List Blk),parK E nt ops ρ0 K l done es own→
 ParOK E nt ops ρ0 base own done→(∀e∈es,∃q∈done,q.out=some e)→(∀q∈done,∀e,q.out=some e→e∈es)→(∀q∈done,∀x∈l,q.i<x.2)→l.Pairwise (fun x y=>x.2<y.2)→base.length≤own.length→(∀q∈done,∀q'∈done,q.i=q'.i→q=q')→
 ∃ps es' own0,ParOK E nt ops ρ0 base own0 ps∧(∀e,e∈es'↔∃q∈ps,q.out=some e)∧K ps es' own0∧(∀q,q∈ps→q∈done∨(q.o,q.i)∈l)∧(∀x∈l,∃q∈ps,q.o=x.1∧q.i=x.2)∧(∀q∈done,q∈ps)∧base.length≤own0.length∧∀q∈ps,∀q'∈ps,q.i=q'.i→q=q':=by
 intro l
 induction l with
 |nil=>
  intro done es own h hP h1 h2 _ _ hb hu
  exact⟨done,es,own,hP,fun e=>⟨h1 e,fun⟨q,hq,ho⟩=>h2 q hq e ho⟩,h,fun q hq=>.inl hq,fun x hx=>by simp at hx,fun q hq=>hq,hb,hu⟩
 |cons x l ih=>
  intro done es own h hP h1 h2 h3 h4 hb hu
  obtain⟨o,i⟩:=x
  simp only[parK]at h
  split at h
  rotate_left
  ·exact h.elim
  rename_i p out al hs
  rw[fO_eq,fA_eq]at h
  obtain⟨hp,h⟩:=h
  replace hp:=hp.out
  rw[Ku]at h4
  have h9:∀q∈done,q.i<i:=fun q hq=>h3 q hq (o,i) Dv
  have hmono:∀q∈done,∀ρ,b80 done ρ0 q.i ρ→b80 (⟨o,i,own,out,al⟩::done) ρ0 q.i ρ:=by
   intro q hq ρ hρ t e he
   rcases hρ t e he with⟨q',dc,b7,mt⟩|⟨hl,hn⟩
   ·exact .inl ⟨q',Ju _ dc,b7,mt⟩
   ·refine .inr ⟨hl,fun q' dc b7 e' mt=> ?_⟩
    rcases J8.1 dc with rfl|dc
    ·have:=h9 q hq;simp only at b7;omega
    ·exact hn q' dc b7 e' mt
  have db:∀(k:Nat) (bl:Blk),own[k]?=some bl→(own++al.toList)[k]?=some bl:=fun k bl hk=>by
   rw[J6 (Iz.1 hk).1];exact hk
  have dp:b80 (⟨o,i,own,out,al⟩::done) ρ0 i (es++ρ0):=by
   refine c6m (fun e he=> ?_) (fun q hq hi e he=> ?_)
   ·obtain⟨q,hq,ho⟩:=h1 e he
    exact⟨q,Ju _ hq,h9 q hq,ho⟩
   ·rcases J8.1 hq with rfl|hq
    ·simp only at hi;omega
    ·exact h2 q hq e he
  have hPn:ParOK E nt ops ρ0 base (own++al.toList) (⟨o,i,own,out,al⟩::done):=by
   refine⟨fun q hq=> ?_,fun q hq=> ?_,fun q hq=> ?_,fun q hq q' dc ha Q7 he=> ?_,fun k bl hk=>db k bl (hP.base k bl hk),fun q hq ha=> ?_⟩
   ·rcases J8.1 hq with rfl|hq
    ·exact⟨es++ρ0,p,dp,hs,hp⟩
    ·obtain⟨ρ,p',e1,e2,e3⟩:=hP.step q hq
     exact⟨ρ,p',hmono q hq ρ e1,e2,e3⟩
   ·rcases J8.1 hq with rfl|hq
    ·refine⟨db,fun b hb=> ?_⟩
     simp only at hb
     subst hb
     simp
    ·obtain⟨s1,s2⟩:=hP.sub q hq
     exact⟨fun k bl hk=>db k bl (s1 k bl hk),fun b hb=>db _ _ (s2 b hb)⟩
   ·rcases J8.1 hq with rfl|hq
    ·exact hb
    ·exact hP.low q hq
   ·rcases J8.1 hq with rfl|hq<;>rcases J8.1 dc with rfl|dc
    ·rfl
    ·have:=hP.top q' dc Q7;simp only at he;omega
    ·have:=hP.top q hq ha;simp only at he;omega
    ·exact hP.one q hq q' dc ha Q7 he
   ·rcases J8.1 hq with rfl|hq
    ·simp only at ha⊢
     cases al with
     |none=>simp at ha
     |some b=>simp
    ·have:=hP.top q hq ha
     rw[Jj];omega
  have k1:∀e∈c84 out es,∃q∈(⟨o,i,own,out,al⟩:PI)::done,q.out=some e:=by
   intro e he
   unfold c84 at he
   split at he
   ·rename_i e0
    rcases J8.1 he with rfl|he
    ·exact⟨_,Kp,rfl⟩
    ·obtain⟨q,hq,ho⟩:=h1 e he
     exact⟨q,Ju _ hq,ho⟩
   ·obtain⟨q,hq,ho⟩:=h1 e he
    exact⟨q,Ju _ hq,ho⟩
  have k2:∀q∈(⟨o,i,own,out,al⟩:PI)::done,∀e,q.out=some e→e∈c84 out es:=by
   intro q hq e he
   unfold c84
   rcases J8.1 hq with rfl|hq
   ·simp only at he
    subst he
    simp
   ·have:=h2 q hq e he
    split
    ·exact Ju _ this
    ·exact this
  have k3:∀q∈(⟨o,i,own,out,al⟩:PI)::done,∀x∈l,q.i<x.2:=by
   intro q hq x hx
   rcases J8.1 hq with rfl|hq
   ·exact h4.1 x hx
   ·exact h3 q hq x (Ju _ hx)
  have k4:∀q∈(⟨o,i,own,out,al⟩:PI)::done,∀q'∈(⟨o,i,own,out,al⟩:PI)::done,q.i=q'.i→q=q':=by
   intro q hq q' dc e
   rcases J8.1 hq with e1|ww<;>rcases J8.1 dc with e2|ni
   ·rw[e1,e2]
   ·rw[e1]at e;have:=h9 q' ni;simp only at e;omega
   ·rw[e2]at e;have:=h9 q ww;simp only at e;omega
   ·exact hu q ww q' ni e
  obtain⟨ps,es',own0,r1,r2,r3,r4,r5,r6,r7,r8⟩:=ih (⟨o,i,own,out,al⟩::done) (c84 out es) (own++al.toList) h hPn k1 k2 k3 h4.2 (by rw[Jj];omega) k4
  refine⟨ps,es',own0,r1,r2,r3,fun q hq=> ?_,fun x hx=> ?_,fun q hq=>r6 q (Ju _ hq),r7,r8⟩
  ·rcases r4 q hq with hd|hl
   ·rcases J8.1 hd with rfl|hd
    ·exact .inr Kp
    ·exact .inl hd
   ·exact .inr (Ju _ hl)
  ·rcases J8.1 hx with rfl|hx
   ·exact⟨⟨o,i,own,out,al⟩,r6 _ Kp,rfl,rfl⟩
   ·exact r5 x hx
structure Draws (b:Nat) (ops:Array Oper):Prop where
 lt:∀(i:Nat) (o:Oper) (j:Nat),ops[i]?=some o→b35 o j=true→j<i
 uniq:∀(i:Nat) (o:Oper) (j:Nat) (o':Oper) (d:Nat),ops[i]?=some o→ops[j]?=some o'→o.dst=some d→o'.dst=some d→i=j
 names:∀(i:Nat) (o:Oper) (t j:Nat) (o':Oper),ops[i]?=some o→(kinds b ops).getD i 0≠2→t∈b3v ops o→ops[j]?=some o'→j≠i→o'.dst=some t→if j<i∧(kinds b ops).getD j 0=0 then Reach ops i j else Reach ops j i
 store:∀(i:Nat) (o:Oper),ops[i]?=some o→(kinds b ops).getD i 0=1→o.guard=none∧∀(j:Nat) (o':Oper),ops[j]?=some o'→j<i→(kinds b ops).getD j 0=1→b35 o j=true
 guard:∀(i:Nat) (o:Oper) (j:Nat) (p:Bool),ops[i]?=some o→o.guard=some (j,p)→b35 o j=true
 last:∀(i:Nat) (o:Oper) (j:Nat) (o':Oper),ops[i]?=some o→(kinds b ops).getD i 0=2→ops[j]?=some o'→j≠i→¬((kinds b ops).getD j 0=2∧i<j)→(kinds b ops).getD j 0≠3→Reach ops i j
 free:∀(i:Nat) (o:Oper),ops[i]?=some o→(kinds b ops).getD i 0=3→∃s d,b9t o=some (s,d)∧∀(j:Nat) (o':Oper),ops[j]?=some o'→o'.dst≠some s∧(d∈b3v ops o'→(kinds b ops).getD j 0=2∧Reach ops j i)
theorem b3s{ops:Array Oper}{i:Nat}{o:Oper}(h:ops[i]?=some o):(o,i)∈ops.toList.zipIdx:=by
 rw[List.mk_mem_zipIdx_iff_getElem?];simpa using h
theorem j3a{ops:Array Oper}{i:Nat}{o:Oper}(h:(o,i)∈ops.toList.zipIdx):ops[i]?=some o:=by
 rw[List.mk_mem_zipIdx_iff_getElem?]at h;simpa using h
theorem c5m:∀{l:List Nat},c1v l=true→l.Nodup
 | [],_=>List.nodup_nil
 |x::r,h=>by
  simp only[c1v,Is,Md,L1]at h
  exact M9.2 ⟨h.1,c5m h.2⟩
theorem d09{l:List (Oper×Nat)}(hp:l.Pairwise (fun x y=>x.2≠y.2))(h:(l.filterMap fun x=>x.1.dst).Nodup):∀x∈l,∀y∈l,∀d,x.1.dst=some d→y.1.dst=some d→x=y:=by
 induction l with
 |nil=>intro x hx;simp at hx
 |cons z l ih=>
  rw[Ku]at hp
  have hl:(l.filterMap fun x=>x.1.dst).Nodup:=by
   rw[List.filterMap_cons]at h
   split at h
   ·exact h
   ·exact(M9.1 h).2
  have hz:∀y∈l,∀d,z.1.dst=some d→y.1.dst=some d→False:=by
   intro y hy d hd fh
   rw[List.filterMap_cons,hd]at h
   exact(M9.1 h).1 (Mk.2 ⟨y,hy,fh⟩)
  intro x hx y hy d hd fh
  rcases J8.1 hx with e1|zx<;>rcases J8.1 hy with e2|ru
  ·rw[e1,e2]
  ·rw[e1]at hd;exact(hz y ru d hd fh).elim
  ·rw[e2]at fh;exact(hz x zx d fh hd).elim
  ·exact ih hp.2 hl x zx y ru d hd fh
theorem f1a(ops:Array Oper):ops.toList.zipIdx.Pairwise (fun x y=>x.2<y.2):=by
 rw[K8]
 intro i j hi hj dj
 simp only[List.getElem_zipIdx]
 omega
theorem g4e{b0:Nat}{ops:Array Oper}(h:c9i b0 ops=true):Draws b0 ops:=by
 unfold c9i f8z at h
 simp only[Km]at h
 obtain⟨⟨⟨⟨⟨⟨h1,h2⟩,h3⟩,h4⟩,h6⟩,h5⟩,h7⟩:=h
 rw[J4]at h1 h3 h4 h5 h6 h7
 refine⟨fun i o j hi hw=> ?_,fun i o j o' d hi hj hd fh=> ?_,fun i o t j o' hi hk ht hj bb hd=> ?_,fun i o hi hk=> ?_,fun i o j p hi hg=> ?_,fun i o j o' hi hk hj bb gh hn3=> ?_,fun i o hi hk=> ?_⟩
 ·have:=J4.1 (h1 _ (b3s hi))
  simp only[b35,Jc,In]at hw
  obtain⟨e,he,hb,rfl⟩:=hw
  have:=this e he
  rw[hb]at this
  simpa using this
 ·have:=d09 ((f1a ops).imp fun h=>Nat.ne_of_lt h) (c5m h2) _ (b3s hi) _ (b3s hj) d hd fh
  exact Lc Prod.snd this
 ·have:=h3 _ (b3s hi)
  simp only[Jy,Lp]at this
  rcases this with h|h
  ·exact absurd h hk
  ·have:=J4.1 (J4.1 h t ht) _ (b3s hj)
   simp only[Jy,Lp,bne_iff_ne,ne_eq]at this
   rcases this with(h|h)|h
   ·exact absurd h bb
   ·exact absurd hd h
   ·by_cases hc:j<i∧(kinds b0 ops).getD j 0=0
    ·rw[Iw hc]
     rw[Iw ⟨by simpa using hc.1,hc.2⟩]at h
     exact b76 h
    ·rw[Iy hc]
     rw[Iy (fun hh=>hc ⟨by simpa using hh.1,hh.2⟩)]at h
     exact b76 h
 ·have:=h4 _ (b3s hi)
  simp only[Jy,bne_iff_ne,ne_eq,In,Option.isNone_iff_eq_none]at this
  rcases this with h|⟨⟨_,hg⟩,hs⟩
  ·exact absurd hk h
  ·refine⟨hg,fun j o' hj h9 d8=> ?_⟩
   have:=J4.1 hs _ (b3s hj)
   rw[Jy]at this
   rcases this with h|h
   ·exfalso
    rw[Jw h9,d8]at h
    simp at h
   ·exact h
 ·have:=h6 _ (b3s hi)
  simp only[hg]at this
  exact this
 ·have:=h5 _ (b3s hi)
  simp only[Jy,bne_iff_ne,ne_eq]at this
  rcases this with h|h
  ·exact absurd hk h
  ·have:=J4.1 h _ (b3s hj)
   simp only[Jy,Lp,Ih]at this
   rcases this with((h|h)|h)|h
   ·exact absurd h bb
   ·exact absurd h gh
   ·exact absurd h hn3
   ·exact b76 h
 ·have:=h7 _ (b3s hi)
  simp only[Jy,bne_iff_ne,ne_eq]at this
  rcases this with h|h
  ·exact absurd hk h
  ·unfold f8c at h
   split at h
   ·rename_i s d hf
    refine⟨s,d,hf,fun j o' hj=> ?_⟩
    have:=J4.1 h _ (b3s hj)
    simp only[In,bne_iff_ne,ne_eq,Jy,Bool.not_eq_true',Md,L1]at this
    refine⟨this.1,fun hd=> ?_⟩
    rcases this.2 with h'|h'
    ·exact absurd hd h'
    ·exact⟨h'.1,b76 h'.2⟩
   ·cases h
theorem b18{b0:Nat}{ops:Array Oper}{k i:Nat}{o:Oper}:(o,i)∈b2q b0 ops k↔ops[i]?=some o∧(kinds b0 ops).getD i 0=k:=by
 unfold b2q
 rw[Kg]
 simp only[Lp]
 exact⟨fun⟨h1,h2⟩=>⟨j3a h1,h2⟩,fun⟨h1,h2⟩=>⟨b3s h1,h2⟩⟩
theorem b1h{o:Oper}{s d:Nat}(h:b9t o=some (s,d)):o.dst=some d:=by
 unfold b9t at h
 split at h
 ·cases h;assumption
 ·cases h
theorem d36{o:Oper}{s d:Nat}(h:b9t o=some (s,d)):o.op=.move (.tmp s)∧o.guard=none:=by
 unfold b9t at h
 split at h
 ·cases h;exact⟨Dx,Dx⟩
 ·cases h
theorem b2z{b0:Nat}{ops:Array Oper}{d:Nat}:d∈b4m b0 ops↔∃i o,ops[i]?=some o∧(kinds b0 ops).getD i 0=3∧o.dst=some d:=by
 unfold b4m
 rw[Mk]
 constructor
 ·rintro⟨⟨o,i⟩,h1,h2⟩
  obtain⟨u1,u2⟩:=b18.1 h1
  exact⟨i,o,u1,u2,h2⟩
 ·rintro⟨i,o,h1,h2,h3⟩
  exact⟨(o,i),b18.2 ⟨h1,h2⟩,h3⟩
theorem b9w(b0:Nat)(ops:Array Oper)(k:Nat):(b2q b0 ops k).Pairwise (fun x y=>x.2<y.2):=(f1a ops).filter _
theorem b4t{ns:List Nat}{t:Nat}{e:Entry}:∀{ρ:List Entry},b4a t (b1m ns ρ)=some e→t∈ns∧b4a t ρ=some e
 | [],h=>by simp[b1m,b4a]at h
 |x::r,h=>by
  simp only[b1m,List.filter_cons]at h
  split at h
  ·rename_i hc
   simp only[b4a]at h⊢
   split at h
   ·rename_i hs
    cases h
    exact⟨by rw[←hs];simpa using hc,by rw[Iw hs]⟩
   ·rename_i hs
    obtain⟨h1,h2⟩:=b4t (ρ:=r) h
    exact⟨h1,by rw[Iy hs];exact h2⟩
  ·rename_i hc
   obtain⟨h1,h2⟩:=b4t (ρ:=r) h
   refine⟨h1,?_⟩
   simp only[b4a]
   rw[Iy (fun hs=>by subst hs;exact hc (by simpa using h1))]
   exact h2
theorem b3u{E:Env}{nt:Nat}{ops:Array Oper}{ρ:List Entry}{own:List Blk}{o:Oper}{p:Prop}{out:Option Entry}{al:Option Blk}(he:c9y E nt ops ρ own o=some (p,out,al)):
 out.map (·.slot)=o.dst∧(∀e,out=some e→∀g b,e.guard=some (g,b)→∃j p',o.guard=some (j,p')∧(ops[j]?).bind (·.dst)=some g):=by
 have slot:∀s:SV,(o.dst.map fun d=>(⟨d,none,s⟩:Entry)).map (·.slot)=o.dst:=by intro s;cases o.dst<;>simp
 have noguard:∀s:SV,∀e,(o.dst.map fun d=>(⟨d,none,s⟩:Entry))=some e→∀g b,e.guard=some (g,b)→∃j p',o.guard=some (j,p')∧(ops[j]?).bind (·.dst)=some g:=by
  intro s e he g b hg
  rw[J1]at he
  obtain⟨d,_,rfl⟩:=he
  cases hg
 unfold c9y at he
 split at he
 ·cases he
 split at he
 ·rename_i j p0 jh
  split at he
  rotate_left
  ·cases he
  rename_i d g nc wk
  split at he
  rotate_left
  ·cases he
  simp only[J3,Ia]at he
  obtain⟨c,hc,⟨p1,s⟩,hs,rfl,rfl,rfl⟩:=he
  refine⟨by simp[nc],fun e he g' b hg=> ?_⟩
  cases he
  cases hg
  exact⟨j,p0,jh,wk⟩
 ·split at he
  ·cases he
  iterate 4
   ·simp only[Ia]at he
    obtain⟨⟨p0,s,b⟩,hn,rfl,rfl,rfl⟩:=he
    exact⟨slot s,noguard s⟩
  ·simp only[Ia]at he
   obtain⟨b,hn,rfl,rfl,rfl⟩:=he
   exact⟨slot _,noguard _⟩
  ·split at he
   ·simp only[Ib]at he
    obtain⟨rfl,rfl,rfl⟩:=he
    exact⟨slot _,noguard _⟩
   ·simp only[Ia]at he
    obtain⟨⟨p0,s⟩,hs,rfl,rfl,rfl⟩:=he
    exact⟨slot s,noguard s⟩
theorem b8h(ds:List Nat)(e:Entry):(b4i ds e).slot=e.slot:=by
 unfold b4i;split<;>(try split)<;>rfl
theorem c67{E:Env}{nt:Nat}{ops:Array Oper}{ρ0:List Entry}{ps:List PI}{sd:List Oper}{own:List Blk}:∀{l:List PI},f50 E nt ops ρ0 ps sd own l→∀q∈l,(∃s∈sd,b35 s q.i=true)∨
 ∃p,c9y E nt ops (b1m (b3v ops q.o) (b6w ps q.i++ρ0)) own q.o=some (p,q.out,none)∧p
 | [],_,q,hq=>by simp at hq
 |x::r,h,q,hq=>by
  simp only[f50]at h
  split at h
  ·rename_i hany
   rcases J8.1 hq with rfl|hq
   ·exact .inl (by simpa using hany)
   ·exact c67 h q hq
  ·split at h
   ·rename_i p out hs
    rcases J8.1 hq with rfl|hq
    ·exact .inr ⟨p,by rw[←h.2.1.out];exact hs,h.1.out⟩
    ·exact c67 h.2.2 q hq
   ·exact h.elim
theorem c83{P:Program}{own own':List Blk}{T:TypeId}{p x:SV}{pre:Prop}(bw:c0d P own T p x=some (pre,own')):own'.length=own.length:=by
 unfold c0d at bw
 simp only[Ii]at bw
 obtain⟨n,hn,us,jd,bw⟩:=bw
 repeat' split at bw
 all_goals first|(cases bw;simp;done)|cases bw
section
variable {E : Env} {B0 : Nat} {X A : Nat → Prop} {w0 : World} {nt : Nat} {ops : Array Oper} {st : St} {a0 : Act} {ρ0 : List Entry} {ps : List PI} {es : List Entry} {own0 : List Blk} {K : St → Prop}
def Ld(listed:Array Bool)(i:Nat):Prop:=listed.getD i true=true
structure Inv1 (E:Env) (B0:Nat) (X A:Nat→Prop) (w0:World) (nt:Nat) (ops:Array Oper) (st:St) (a0:Act) (ρ0:List Entry) (ps:List PI) (es:List Entry) (own0:List Blk) (K:St→Prop)
 (listed:Array Bool) (a:Act) (w:World) (μ:Mu) (sd:List Oper) (xs:List Entry) (sr:List (Oper×Nat)) (om:List Blk):Prop where
 own:Own B0 X A w μ om
 len:om.length=own0.length
 fr:Fr B0 X w0 w
 base:B0≤w.heap.size
 glo:∀g s,E.glob g=some s→s.pure=true∧D w (held A μ) μ s (.pointer (some ⟨g,0,none⟩))
 dfr:a.defers=[]
 size:a.tmps.size=nt
 sk:d2s E nt st.own.length ops ρ0 ps (fun xs own=>g11 E (kb E.c2 ops) nt ops K ⟨xs++(es++ρ0),own⟩) sr sd xs om
 late:om=own0∨f50 E nt ops ρ0 ps sd om ps
 sdL:∀s∈sd,∃i,ops[i]?=some s∧(kinds (kb E.c2 ops) ops).getD i 0=1∧Ld listed i
 xsE:∀e∈xs,e.guard=none∧b0d w (held A μ) μ a.tmps e∧∃s∈sd,s.dst=some e.slot
 xsA:∀s∈sd,∀d,s.dst=some d→∃e∈xs,e.slot=d
 srU:∀x∈sr,ops[x.2]?=some x.1∧(kinds (kb E.c2 ops) ops).getD x.2 0=1∧¬Ld listed x.2
 srA:∀(i:Nat) (o:Oper),ops[i]?=some o→(kinds (kb E.c2 ops) ops).getD i 0=1→¬Ld listed i→(o,i)∈sr
 srP:sr.Pairwise (fun x y=>x.2<y.2)
 ent:∀q∈ps,Ld listed q.i→b4s w (held A μ) μ a.tmps q.out
 tmp:∀t,(∀q∈ps,Ld listed q.i→q.o.dst≠some t)→t∉b4m (kb E.c2 ops) ops→(∀s∈sd,s.dst≠some t)→a.tmps.getD t undef=a0.tmps.getD t undef
 frd:∀(i:Nat) (o:Oper) (s d:Nat),ops[i]?=some o→(kinds (kb E.c2 ops) ops).getD i 0=3→b9t o=some (s,d)→Ld listed i→d<nt→a.tmps.getD d undef=a0.tmps.getD s undef
 fresh:∀k,st.own.length≤k→(∀q∈ps,Ld listed q.i→q.al.isSome=true→q.own.length≠k)→μ k=none
 env0:b9j w (held A μ) μ a0.tmps ρ0
 closed:∀(i:Nat) (o:Oper) (j:Nat),ops[i]?=some o→Ld listed i→b35 o j=true→Ld listed j
 anc:∀k x,E.an k=some x→μ k=some x
 no2:∀(i:Nat) (o:Oper),ops[i]?=some o→(kinds (kb E.c2 ops) ops).getD i 0=2→¬Ld listed i
theorem b85{ops:Array Oper}{listed:Array Bool}(hc:∀(i:Nat) (o:Oper) (j:Nat),ops[i]?=some o→Ld listed i→b35 o j=true→Ld listed j){i j:Nat}(h:Reach ops i j):Ld listed i→Ld listed j:=by
 induction h with
 |one h hw=>exact fun hi=>hc _ _ _ h hi hw
 |more h hw _ ih=>exact fun hi=>ih (hc _ _ _ h hi hw)
theorem b5r{ops:Array Oper}{listed:Array Bool}(hc:∀(i:Nat) (o:Oper) (j:Nat),ops[i]?=some o→Ld listed i→b35 o j=true→Ld listed j){i j:Nat}(h:Reach ops i j){o:Oper}(ho:ops[i]?=some o)(hr:∀j,b35 o j=true→Ld listed j):Ld listed j:=by
 cases h with
 |one h hw=>rw[h]at ho;cases ho;exact hr _ hw
 |more h hw Nc=>rw[h]at ho;cases ho;exact b85 hc Nc (hr _ hw)
structure Fixed (E:Env) (nt:Nat) (ops:Array Oper) (st:St) (ρ0:List Entry) (ps:List PI) (es:List Entry) (own0:List Blk):Prop where
 dr:Draws (kb E.c2 ops) ops
 par:ParOK E nt ops ρ0 st.own own0 ps
 pin:∀q∈ps,ops[q.i]?=some q.o∧(kinds (kb E.c2 ops) ops).getD q.i 0=0
 pall:∀(i:Nat) (o:Oper),ops[i]?=some o→(kinds (kb E.c2 ops) ops).getD i 0=0→∃q∈ps,q.o=o∧q.i=i
 es:∀e,e∈es↔∃q∈ps,q.out=some e
 fno:∀e∈ρ0,e.slot∉b4m (kb E.c2 ops) ops
 gno:∀e∈ρ0,∀g b,e.guard=some (g,b)→∀(i:Nat) (o:Oper),ops[i]?=some o→o.dst≠some g
 top:st.own.length≤own0.length
 uni:∀q∈ps,∀q'∈ps,q.i=q'.i→q=q'
variable {listed : Array Bool} {a : Act} {w : World} {μ : Mu} {sd : List Oper} {xs : List Entry} {sr : List (Oper × Nat)} {om : List Blk}
theorem g84(hF:Fixed E nt ops st ρ0 ps es own0)(h:Inv1 E B0 X A w0 nt ops st a0 ρ0 ps es own0 K listed a w μ sd xs sr om){i:Nat}{o:Oper}(ho:ops[i]?=some o)(hk:(kinds (kb E.c2 ops) ops).getD i 0≠2)(_:(kinds (kb E.c2 ops) ops).getD i 0≠3)(hi:¬Ld listed i)(hr:∀j,b35 o j=true→Ld listed j)
 {ρ:List Entry} (hρ:b80 ps ρ0 i ρ):b9j w (held A μ) μ a.tmps (b1m (b3v ops o) ρ):=by
 intro t e he
 obtain⟨ht,he⟩:=b4t he
 have j5:=b1a he
 rcases hρ t e he with⟨q,hq,h9,mt⟩|⟨hl,hn⟩
 ·obtain⟨ρq,p,_,hs,_⟩:=hF.par.step q hq
  have hd:q.o.dst=some t:=by
   have:=(b3u hs).1
   rw[mt]at this
   rw[←this]
   simp[j5]
  obtain⟨P0,Q8⟩:=hF.pin q hq
  have:=hF.dr.names i o t q.i q.o ho hk ht P0 (Nat.ne_of_lt h9) hd
  rw[Iw ⟨h9,Q8⟩]at this
  have:=h.ent q hq (b5r h.closed this ho hr)
  rw[mt]at this
  exact this
 ·have h0:=h.env0 t e hl
  have same:∀t',(∀q∈ps,Ld listed q.i→q.o.dst≠some t')→t'∉b4m (kb E.c2 ops) ops→(∀s∈sd,s.dst≠some t')→a.tmps.getD t' undef=a0.tmps.getD t' undef:=h.tmp
  have st1:a.tmps.getD t undef=a0.tmps.getD t undef:=by
   refine same t (fun q hq hL hd=> ?_) (fun hf=>by
    obtain⟨j,oj,h1,h2,h3⟩:=b2z.1 hf
    obtain⟨s,d,f1,f2⟩:=hF.dr.free j oj h1 h2
    have hd:d=t:=by
     have:=b1h f1
     rw[h3]at this
     exact(Jp this).symm
    subst hd
    exact hk ((f2 i o ho).2 ht).1) (fun s hs hd=>by
    obtain⟨j,hj,d8,hL⟩:=h.sdL s hs
    have bb:j≠i:=fun e=>hi (e▸hL)
    have:=hF.dr.names i o t j s ho hk ht hj bb hd
    rw[Iy Dt]at this
    exact hi (b85 h.closed this hL))
   obtain⟨P0,Q8⟩:=hF.pin q hq
   have bb:q.i≠i:=fun e=>hi (e▸hL)
   rcases Nat.lt_or_gt_of_ne bb with h9|hgt
   ·obtain⟨ρq,p,_,hs,_⟩:=hF.par.step q hq
    have gk:=(b3u hs).1
    rw[hd]at gk
    rw[J1]at gk
    obtain⟨e',dw,cc⟩:=gk
    exact hn q hq h9 e' dw cc
   ·have:=hF.dr.names i o t q.i q.o ho hk ht P0 bb hd
    rw[Iy Dt]at this
    exact hi (b85 h.closed this hL)
  unfold b0d at h0⊢
  rw[j5]at h0⊢
  split
  ·rename_i hg
   rw[hg]at h0
   simp only at h0
   rw[st1]
   exact h0
  ·rename_i g b hg
   rw[hg]at h0
   simp only at h0
   have sg:a.tmps.getD g undef=a0.tmps.getD g undef:=same g (fun q hq _ hd=>hF.gno e (b2e hl) g b hg q.i q.o (hF.pin q hq).1 hd) (fun hf=>by
    obtain⟨j,oj,h1,h2,h3⟩:=b2z.1 hf
    exact hF.gno e (b2e hl) g b hg j oj h1 h3) (fun s hs hd=>by
    obtain⟨j,hj,_,_⟩:=h.sdL s hs
    exact hF.gno e (b2e hl) g b hg j s hj hd)
   rw[st1,sg]
   exact h0
end
section
variable {E : Env} {B0 : Nat} {X A : Nat → Prop} {w0 : World} {nt : Nat} {ops : Array Oper} {st : St} {a0 : Act} {ρ0 : List Entry} {ps : List PI} {es : List Entry} {own0 : List Blk} {K : St → Prop}
variable {listed : Array Bool} {a : Act} {w : World} {μ : Mu} {sd : List Oper} {xs : List Entry} {sr : List (Oper × Nat)} {om : List Blk}
theorem b0n{i j:Nat}(hi:i<listed.size):Ld (listed.setIfInBounds i true) j↔j=i∨Ld listed j:=by
 unfold Ld
 by_cases e:j=i
 ·subst e;simp[hi]
 ·simp[e,L6 (Ne.symm e)]
theorem b0d.keep{w w':World}{H H':Nat→Prop}{μ μ':Mu}{tmps:Array Value}{e:Entry}(hk:Keeps w w' H H' μ μ')(h:b0d w H μ tmps e):b0d w' H' μ' tmps e:=by
 unfold b0d at h⊢
 split at h
 ·exact h.keep hk
 ·exact⟨fun hg=>(h.1 hg).keep hk,h.2⟩
theorem b5e{d:Option Nat}{v:Value}{t:Nat}(h:d≠some t):(a.put d v).tmps.getD t undef=a.tmps.getD t undef:=by
 cases d with
 |none=>rfl
 |some d=>
  have bb:d≠t:=fun e=>h (by rw[e])
  simp[Act.put,L6 bb]
theorem b0d.put{H:Nat→Prop}{e:Entry}{d:Option Nat}{v:Value}(hs:d≠some e.slot)(hg:∀g b,e.guard=some (g,b)→d≠some g)(h:b0d w H μ a.tmps e):b0d w H μ (a.put d v).tmps e:=by
 unfold b0d at h⊢
 split at h
 ·rw[b5e hs];exact h
 ·rename_i g b jh
  rw[b5e hs,b5e (hg g b jh)];exact h
theorem g3h(hE:EnvOK E)(hC:b1u E)(hF:Fixed E nt ops st ρ0 ps es own0)(h:Inv1 E B0 X A w0 nt ops st a0 ρ0 ps es own0 K listed a w μ sd xs sr om)(bk:listed.size=ops.size){i:Nat}{o:Oper}(ho:ops[i]?=some o)(hk:(kinds (kb E.c2 ops) ops).getD i 0=0)
 (hi:¬Ld listed i) (hr:∀j,b35 o j=true→Ld listed j) {Kc:Act→World→Prop} {Q:Exit→Act→World→Prop}
 (hK:∀a' w' μ',Inv1 E B0 X A w0 nt ops st a0 ρ0 ps es own0 K (listed.setIfInBounds i true) a' w' μ' sd xs sr om→Kc a' w'):wpOp E.P ops Q i Kc a w:=by
 have bf:i<listed.size:=F7
 obtain⟨q,hq,rfl,rfl⟩:=hF.pall i o ho hk
 have ev:∃ρ ownq bl p,b80 ps ρ0 q.i ρ∧c9y E nt ops (b1m (b3v ops q.o) ρ) ownq q.o=some (p,q.out,bl)∧p∧(∀(k:Nat) (b:Blk),ownq[k]?=some b→om[k]?=some b)∧(bl=none∨ownq=q.own∧bl=q.al∧om=own0):=by
  rcases h.late with e|hl
  ·obtain⟨ρ,p,h1,h2,h3⟩:=hF.par.step q hq
   exact⟨ρ,q.own,q.al,p,h1,h2,h3,by rw[e];exact(hF.par.sub q hq).1,.inr ⟨rfl,rfl,e⟩⟩
  ·rcases c67 hl q hq with⟨s,hs,hw⟩|⟨p,h2,h3⟩
   ·obtain⟨j,hj,_,hL⟩:=h.sdL s hs
    exact absurd (h.closed j s q.i hj hL hw) hi
   ·exact⟨_,om,none,p,b9p,h2,h3,fun _ _ h=>h,.inl rfl⟩
 obtain⟨ρ,ownq,bl,p,hρ,hs,hp,ba,cx⟩:=ev
 have d5:=g84 hF h ho Dt Dt hi hr hρ
 have j5:=(b3u hs).1
 have main:=(d6h hE hC h.own h.base ba h.glo d5 h.size hs hp (fun b hb=>by
  rcases cx with e|⟨rfl,rfl,rfl⟩
  ·rw[e]at hb;cases hb
  ·refine⟨h.fresh _ (hF.par.low q hq) (fun q' dc hL ha he=> ?_),(hF.par.sub q hq).2 b hb⟩
   have:=hF.par.one q' dc q hq ha (by rw[hb];rfl) he
   exact hi (this▸hL)) (K:=Kc) (Q:=Q) (fun v w' μ' ha hμ mu=>hK _ w' μ' ?_)).2
 ·unfold wpOp
  rw[ho]
  simp only
  split
  ·rename_i hw;rw[Iw hw]at main;exact .inl main
  ·rename_i hw;rw[Iy hw]at main;exact main
 ·have same:∀t,q.o.dst≠some t→(a.put q.o.dst v).tmps.getD t undef=a.tmps.getD t undef:=fun t ht=>b5e ht
  refine⟨ha.own,h.len,h.fr.trans ha.fr,L3 h.base ha.fr.size,b21 ha.keeps h.glo,by cases q.o.dst<;>exact h.dfr,by cases q.o.dst<;>simp[Act.put,h.size],h.sk,h.late,fun s hs=> ?_,fun e he=> ?_,h.xsA,fun x hx=> ?_,fun j o' hj d8 hn=> ?_,h.srP,
   fun q' dc hL=> ?_,fun t ht hf gz=> ?_,fun j o' s d hj d8 gc hL hd=> ?_,fun k cm hn=> ?_,h.env0.keep ha.keeps,fun j o' l hj hL hw=> ?_,fun j x hx=>ha.keeps.own _ _ (h.anc j x hx),fun j o' hj d8 hL=> ?_⟩
  ·obtain⟨j,hj,d8,hL⟩:=h.sdL s hs
   exact Cm
  ·obtain⟨e1,e2,s,hs,gz⟩:=h.xsE e he
   obtain⟨j,hj,d8,_⟩:=h.sdL s hs
   refine⟨e1,(b0d.keep ha.keeps e2).put (fun hd=> ?_) (fun g b hg=>by rw[e1]at hg;cases hg),s,hs,gz⟩
   have:=hF.dr.uniq _ _ _ _ _ ho hj hd gz
   rw[this]at hk
   omega
  ·obtain⟨x1,x2,x3⟩:=h.srU x hx
   refine⟨x1,x2,fun hL=> ?_⟩
   rcases(b0n bf).1 hL with e|hL
   ·rw[e]at x2;omega
   ·exact x3 hL
  ·exact h.srA j o' hj d8 (fun hL=>hn ((b0n bf).2 (.inr hL)))
  ·rcases(b0n bf).1 hL with e|hL
   ·rw[hF.uni q' dc q hq e];exact mu
   ·have old:=h.ent q' dc hL
    have bb:q'.i≠q.i:=fun e=>hi (e▸hL)
    obtain⟨ρ',p',_,cc,_⟩:=hF.par.step q' dc
    obtain⟨sl1,sl2⟩:=b3u cc
    unfold b4s at old⊢
    split
    ·exact Ix
    ·rename_i e he
     rw[he]at old sl1
     simp only at old
     refine(b0d.keep ha.keeps old).put (fun hd=> ?_) (fun g b hg hd=> ?_)
     ·have:q'.o.dst=some e.slot:=by rw[←sl1];rfl
      exact bb (hF.dr.uniq _ _ _ _ _ (hF.pin q' dc).1 ho this hd)
     ·obtain⟨j,p2,jh,hj⟩:=sl2 e he g b hg
      cases pv:ops[j]? with
      |none=>rw[pv]at hj;cases hj
      |some oj=>
       rw[pv]at hj
       have wx:=hF.dr.uniq _ _ _ _ _ pv ho hj hd
       have hw:=hF.dr.guard _ _ _ _ (hF.pin q' dc).1 jh
       exact hi (wx▸h.closed _ _ _ (hF.pin q' dc).1 hL hw)
  ·rw[same t (ht q hq ((b0n bf).2 (.inl rfl)))]
   exact h.tmp t (fun q' dc hL=>ht q' dc ((b0n bf).2 (.inr hL))) hf gz
  ·have bb:j≠q.i:=fun e=>by rw[e]at d8;omega
   have nj:Ld listed j:=by
    rcases(b0n bf).1 hL with e|hL
    ·exact absurd e bb
    ·exact hL
   rw[same d (fun fh=>bb (hF.dr.uniq _ _ _ _ _ hj ho (b1h gc) fh))]
   exact h.frd j o' s d hj d8 gc nj hd
  ·rw[hμ k (fun hb=> ?_)]
   ·exact h.fresh k cm (fun q' dc hL=>hn q' dc ((b0n bf).2 (.inr hL)))
   ·rcases cx with e|⟨rfl,rfl,_⟩
    ·rw[e]at hb;cases hb
    ·exact fun e=>hn q hq ((b0n bf).2 (.inl rfl)) hb e.symm
  ·rcases(b0n bf).1 hL with e|hL
   ·subst e
    rw[ho]at hj
    cases hj
    exact(b0n bf).2 (.inr (hr l hw))
   ·exact Cn
  ·rcases(b0n bf).1 hL with e|hL
   ·subst e;omega
   ·exact h.no2 j o' hj d8 hL
theorem f4z(hC:b1u E)(hF:Fixed E nt ops st ρ0 ps es own0)(h:Inv1 E B0 X A w0 nt ops st a0 ρ0 ps es own0 K listed a w μ sd xs sr om)(bk:listed.size=ops.size){i:Nat}{o:Oper}(ho:ops[i]?=some o)(hk:(kinds (kb E.c2 ops) ops).getD i 0=1)
 (hi:¬Ld listed i) (hr:∀j,b35 o j=true→Ld listed j) {Kc:Act→World→Prop} {Q:Exit→Act→World→Prop}
 (hK:∀a' w' μ' sd' xs' sr' om',Inv1 E B0 X A w0 nt ops st a0 ρ0 ps es own0 K (listed.setIfInBounds i true) a' w' μ' sd' xs' sr' om'→Kc a' w'):wpOp E.P ops Q i Kc a w:=by
 have bf:i<listed.size:=F7
 obtain⟨hg,bw⟩:=hF.dr.store i o ho hk
 have cy:=h.srA i o ho hk hi
 have dz:=h.sk
 have mv:=h.srP
 have rf:=h.srU
 have tj:=h.srA
 match sr,cy,dz,mv,rf,tj with
 |(o',i')::r,cy,dz,mv,rf,tj=>
  rw[Ku]at mv
  have pw:(o,i)=(o',i'):=by
   rcases J8.1 cy with e|hm
   ·exact e
   ·exfalso
    have h9:=mv.1 _ hm
    obtain⟨u1,u2,u3⟩:=rf (o',i') Dv
    exact u3 (hr i' (bw i' o' u1 h9 u2))
  cases pw
  simp only[d2s]at dz
  split at dz
  rotate_left
  ·exact dz.elim
  rename_i p own' out kd
  rw[fO_eq,f39]at dz
  obtain⟨hp,hlate,dz⟩:=dz
  replace hp:=hp.out
  have d5:=g84 hF h ho Dt Dt hi hr (b9p (ps:=ps) (ρ0:=ρ0) (i:=i))
  have next:∀(w':World) (μ':Mu) (v:Value),Own B0 X A w' μ' own'→Fr B0 X w w'→Keeps w w' (held A μ) (held A μ') μ μ'→(∀k,st.own.length≤k→(∀q∈ps,Ld listed q.i→q.al.isSome=true→q.own.length≠k)→μ' k=none)→(∀k x,E.an k=some x→μ' k=some x)→
   own'.length=om.length→(out=none∧o.dst=none∨∃d s,o.dst=some d∧out=some ⟨d,none,s⟩∧b7m nt o.dst=true∧D w' (held A μ') μ' s v)→
   Inv1 E B0 X A w0 nt ops st a0 ρ0 ps es own0 K (listed.setIfInBounds i true) (a.put o.dst v) w' μ' (o::sd) (c84 out xs) r own':=by
   intro w' μ' v n1 n2 n3 n4 n5 n6 n7
   have ff:∀e,e∈xs→e∈c84 out xs:=fun e he=>by
    unfold c84;split
    ·exact Ju _ he
    ·exact he
   have hold:∀{e:Entry},e∈xs→o.dst≠some e.slot:=fun {e} he hd=>by
    obtain⟨_,_,s,hs,gz⟩:=h.xsE e he
    obtain⟨j,hj,_,hL⟩:=h.sdL s hs
    exact hi (hF.dr.uniq _ _ _ _ _ ho hj hd gz▸hL)
   refine⟨n1,n6.trans h.len,h.fr.trans n2,L3 h.base n2.size,b21 n3 h.glo,by cases o.dst<;>exact h.dfr,by cases o.dst<;>simp[Act.put,h.size],dz,.inr hlate,fun s hs=> ?_,fun e he=> ?_,fun s hs d hd=> ?_,fun x hx=> ?_,fun j o' hj d8 hn=> ?_,mv.2,
    fun q' dc hL=> ?_,fun t ht hf gz=> ?_,fun j o' s d hj d8 gc hL hd=> ?_,fun k cm hn=>n4 k cm (fun q hq hL=>hn q hq ((b0n bf).2 (.inr hL))),h.env0.keep n3,fun j o' l hj hL hw=> ?_,n5,fun j o' hj d8 hL=> ?_⟩
   ·rcases J8.1 hs with rfl|hs
    ·exact⟨i,ho,hk,(b0n bf).2 (.inl rfl)⟩
    ·obtain⟨j,hj,d8,hL⟩:=h.sdL s hs
     exact Cm
   ·have old:e∈xs→e.guard=none∧b0d w' (held A μ') μ' (a.put o.dst v).tmps e∧∃s∈o::sd,s.dst=some e.slot:=fun he=>by
     obtain⟨e1,e2,s,hs,gz⟩:=h.xsE e he
     exact⟨e1,(b0d.keep n3 e2).put (hold he) (fun g b hg=>by rw[e1]at hg;cases hg),s,Ju _ hs,gz⟩
    rcases n7 with⟨rfl,_⟩|⟨d,s,hd,rfl,hdo,hv⟩
    ·exact old he
    ·rcases J8.1 he with rfl|he
     ·refine⟨rfl,?_,o,Kp,hd⟩
      have h9:d<a.tmps.size:=by rw[h.size];simpa[b7m,hd]using hdo
      rw[hd]
      unfold b0d Act.put
      simp only
      rw[b23 h9,Iw rfl]
      exact hv
     ·exact old he
   ·rcases J8.1 hs with rfl|hs
    ·rcases n7 with⟨_,h0⟩|⟨d',s',fh,rfl,_,_⟩
     ·rw[h0]at hd;cases hd
     ·rw[fh]at hd;cases hd
      exact⟨_,Kp,rfl⟩
    ·obtain⟨e,he,qm⟩:=h.xsA s hs d hd
     exact⟨e,ff e he,qm⟩
   ·obtain⟨u1,u2,u3⟩:=rf x Ef
    refine⟨u1,u2,fun hL=> ?_⟩
    rcases(b0n bf).1 hL with e|hL
    ·have:=mv.1 x hx;simp only at this;omega
    ·exact u3 hL
   ·have:=tj j o' hj d8 (fun hL=>hn ((b0n bf).2 (.inr hL)))
    rcases J8.1 this with e|hm
    ·cases e;exact absurd ((b0n bf).2 (.inl rfl)) hn
    ·exact hm
   ·rcases(b0n bf).1 hL with e|hL
    ·have:=(hF.pin q' dc).2;rw[e]at this;omega
    ·have bb:q'.i≠i:=fun e=>hi (e▸hL)
     have old:=h.ent q' dc hL
     obtain⟨ρ',p',_,cc,_⟩:=hF.par.step q' dc
     obtain⟨sl1,sl2⟩:=b3u cc
     unfold b4s at old⊢
     split
     ·exact Ix
     ·rename_i e he
      rw[he]at old sl1
      simp only at old
      refine(b0d.keep n3 old).put (fun hd=> ?_) (fun g b hg hd=> ?_)
      ·have:q'.o.dst=some e.slot:=by rw[←sl1];rfl
       exact bb (hF.dr.uniq _ _ _ _ _ (hF.pin q' dc).1 ho this hd)
      ·obtain⟨j,p2,jh,hj⟩:=sl2 e he g b hg
       cases pv:ops[j]? with
       |none=>rw[pv]at hj;cases hj
       |some oj=>
        rw[pv]at hj
        have wx:=hF.dr.uniq _ _ _ _ _ pv ho hj hd
        have hw:=hF.dr.guard _ _ _ _ (hF.pin q' dc).1 jh
        exact hi (wx▸h.closed _ _ _ (hF.pin q' dc).1 hL hw)
   ·rw[b5e (gz o Kp)]
    exact h.tmp t (fun q hq hL=>ht q hq ((b0n bf).2 (.inr hL))) hf (fun s hs=>gz s (Ju _ hs))
   ·have bb:j≠i:=fun e=>by rw[e]at d8;omega
    have nj:Ld listed j:=by
     rcases(b0n bf).1 hL with e|hL
     ·exact absurd e bb
     ·exact hL
    rw[b5e (fun fh=>bb (hF.dr.uniq _ _ _ _ _ hj ho (b1h gc) fh))]
    exact h.frd j o' s d hj d8 gc nj hd
   ·rcases(b0n bf).1 hL with e|hL
    ·subst e
     rw[ho]at hj
     cases hj
     exact(b0n bf).2 (.inr (hr l hw))
    ·exact Cn
   ·rcases(b0n bf).1 hL with e|hL
    ·subst e;omega
    ·exact h.no2 j o' hj d8 hL
  unfold wpOp
  rw[ho]
  simp only
  rw[Iw (by simp[Region.wanted,hg])]
  refine .inl ?_
  unfold f2s at kd
  split at kd
  ·rename_i T px xx cn
   simp only[J3]at kd
   obtain⟨sp,te,sx,pk,rr,kd,hd⟩:=kd
   split at hd
   rotate_left
   ·cases hd
   rename_i hdn
   simp only[Ib]at hd
   obtain⟨rfl,rfl,rfl⟩:=hd
   have hρ:=b6m (E:=E) (a:=a) (g:=none) (fun n s hn=>(h.glo n s hn).2) d5 (fun q b e=>E4)
   obtain⟨w',bi,ha⟩:=c62 h.own (hρ _ _ te) (hρ _ _ pk) kd hp
   have hx:(execOp a.eval o).run E.P w=.ok .skip w':=by simp[execOp,cn,bi]
   unfold Oper.wp
   rw[hx]
   exact hK _ w' μ _ _ _ _ (next w' μ undef ha.own ha.fr ha.keeps h.fresh h.anc (c83 kd) (.inl ⟨rfl,hdn⟩))
  ·split at kd
   rotate_left
   ·cases kd
   rename_i p1 s1 own1 hev1
   split at kd
   rotate_left
   ·cases kd
   rename_i da
   simp only[Km]at da
   obtain⟨⟨c1,c2⟩,c3⟩:=da
   replace c1:=Nat.eq_of_beq_eq_true c1
   replace c2:=Nat.eq_of_beq_eq_true c2
   simp only[Ib]at kd
   obtain⟨rfl,rfl,rfl⟩:=kd
   have hS:SD E B0 X A w0 nt ⟨b1m (b3v ops o) (b6w ps i++ρ0),om⟩ a w μ:=⟨h.own,h.fr,h.base,h.glo,h.dfr,h.size,d5,fun k hk=>by
    simp only at hk
    refine h.fresh k Dt (fun q hq _ ha e=> ?_)
    have:=hF.par.top q hq ha
    rw[←h.len]at this
    omega,h.anc⟩
   refine d3d hC hS (by rw[←c8w];exact hev1) hp (fun v w' μ' q1 q2 q3 q4 q5 q6=>hK _ w' μ' _ _ _ _ (next w' μ' v q1 q2 ⟨q3.size,q3.block,q3.less,fun k x hx=>q3.own k x Dv hx⟩ (fun k hk _=>q4 k Dt) q5 Dt ?_))
   cases hd:o.dst with
   |none=>exact .inl ⟨rfl,rfl⟩
   |some d=>exact .inr ⟨d,s1,rfl,rfl,by rw[←hd];exact c3,q6⟩
theorem g7g{d:Nat}{v:Value}(h:d<a.tmps.size):(a.put (some d) v).tmps.getD d undef=v:=by
 simp[Act.put,h]
theorem g4p{d:Nat}{v:Value}(h:d<a.tmps.size→a.tmps.getD d undef=v):a.put (some d) v=a:=by
 have:a.tmps.setIfInBounds d v=a.tmps:=by
  by_cases hd:d<a.tmps.size
  ·have e:=h hd
   have e':a.tmps[d]=v:=by
    rw[←e]
    simp[Array.getD,hd]
   rw[←e']
   simp[Array.setIfInBounds,hd]
  ·simp[Array.setIfInBounds,hd]
 unfold Act.put
 simp only
 rw[this]
theorem d8t{P:Program}{o:Oper}{s d:Nat}(hf:b9t o=some (s,d)){Kc:Act→World→Prop}{Q:Exit→Act→World→Prop}:o.wp P a w Kc Q↔Kc (a.put (some d) (a.tmps.getD s undef)) w:=by
 obtain⟨cn,_⟩:=d36 hf
 have hd:=b1h hf
 have hx:(execOp a.eval o).run P w=.ok (.value (a.tmps.getD s undef)) w:=by simp[execOp,cn,Act.eval]
 unfold Oper.wp
 rw[hx,Oper.upon_value,hd]
theorem g14(hF:Fixed E nt ops st ρ0 ps es own0)(h:Inv1 E B0 X A w0 nt ops st a0 ρ0 ps es own0 K listed a w μ sd xs sr om)(bk:listed.size=ops.size){i:Nat}{o:Oper}(ho:ops[i]?=some o)(hk:(kinds (kb E.c2 ops) ops).getD i 0=3)
 (hi:¬Ld listed i) (hr:∀j,b35 o j=true→Ld listed j) {Kc:Act→World→Prop} {Q:Exit→Act→World→Prop}
 (hK:∀a' w' μ',Inv1 E B0 X A w0 nt ops st a0 ρ0 ps es own0 K (listed.setIfInBounds i true) a' w' μ' sd xs sr om→Kc a' w'):wpOp E.P ops Q i Kc a w:=by
 have bf:i<listed.size:=F7
 obtain⟨s,d,hf,mb⟩:=hF.dr.free i o ho hk
 have dy:=b1h hf
 have N0:d∈b4m (kb E.c2 ops) ops:=b2z.2 ⟨i,o,ho,hk,dy⟩
 have same:∀{v:Value} t,t≠d→(a.put (some d) v).tmps.getD t undef=a.tmps.getD t undef:=fun t ht=>b5e (fun e=>ht (Jp e).symm)
 have hsv:a.tmps.getD s undef=a0.tmps.getD s undef:=h.tmp s (fun q hq _=>(mb q.i q.o (hF.pin q hq).1).1) (fun hD=>by
  obtain⟨j,o',h1,_,h3⟩:=b2z.1 hD
  exact(mb j o' h1).1 h3) (fun s' cc=>by
  obtain⟨j,hj,_,_⟩:=h.sdL s' cc
  exact(mb j s' hj).1)
 unfold wpOp
 rw[ho]
 simp only
 rw[Iw Gv]
 refine .inl ((d8t hf).2 (hK _ w μ ?_))
 refine⟨h.own,h.len,h.fr,h.base,h.glo,h.dfr,by simp[Act.put,h.size],h.sk,h.late,fun x hx=> ?_,fun e he=> ?_,h.xsA,fun x hx=> ?_,fun j o' hj d8 hn=> ?_,h.srP,
  fun q hq hL=> ?_,fun t ht fe gz=> ?_,fun j o' s' d' hj d8 gc hL hd=> ?_,fun k cm hn=>h.fresh k cm (fun q hq hL=>hn q hq ((b0n bf).2 (.inr hL))),h.env0,fun j o' l hj hL hw=> ?_,h.anc,fun j o' hj d8 hL=> ?_⟩
 ·obtain⟨j,hj,d8,hL⟩:=h.sdL x hx
  exact Cm
 ·obtain⟨e1,e2,s',cc,gz⟩:=h.xsE e he
  obtain⟨j,hj,d8,_⟩:=h.sdL s' cc
  refine⟨e1,e2.put (fun hd=> ?_) (fun g b hg=>by rw[e1]at hg;cases hg),s',cc,gz⟩
  have:=hF.dr.uniq _ _ _ _ _ ho hj (dy.trans hd) gz
  rw[this]at hk
  omega
 ·obtain⟨u1,u2,u3⟩:=h.srU x hx
  refine⟨u1,u2,fun hL=> ?_⟩
  rcases(b0n bf).1 hL with e|hL
  ·rw[e]at u2;omega
  ·exact u3 hL
 ·exact h.srA j o' hj d8 (fun hL=>hn ((b0n bf).2 (.inr hL)))
 ·have qq:=(hF.pin q hq).2
  have bb:q.i≠i:=fun e=>by rw[e]at qq;omega
  have nj:Ld listed q.i:=by
   rcases(b0n bf).1 hL with e|hL
   ·exact absurd e bb
   ·exact hL
  have old:=h.ent q hq nj
  obtain⟨ρ',p',_,cc,_⟩:=hF.par.step q hq
  obtain⟨sl1,sl2⟩:=b3u cc
  unfold b4s at old⊢
  split
  ·exact Ix
  ·rename_i e he
   rw[he]at old sl1
   simp only at old
   refine old.put (fun hd=> ?_) (fun g b hg hd=> ?_)
   ·have:q.o.dst=some e.slot:=by rw[←sl1];rfl
    exact bb (hF.dr.uniq _ _ _ _ _ (hF.pin q hq).1 ho this (dy.trans hd))
   ·obtain⟨j,p2,jh,hj⟩:=sl2 e he g b hg
    cases pv:ops[j]? with
    |none=>rw[pv]at hj;cases hj
    |some oj=>
     rw[pv]at hj
     have wx:=hF.dr.uniq _ _ _ _ _ pv ho hj (dy.trans hd)
     have hw:=hF.dr.guard _ _ _ _ (hF.pin q hq).1 jh
     exact hi (wx▸h.closed _ _ _ (hF.pin q hq).1 nj hw)
 ·rw[same t (fun e=>fe (e▸N0))]
  exact h.tmp t (fun q hq hL=>ht q hq ((b0n bf).2 (.inr hL))) fe gz
 ·by_cases e:j=i
  ·subst e
   rw[ho]at hj
   cases hj
   rw[hf]at gc
   cases gc
   rw[g7g (by rw[h.size];exact hd)]
   exact hsv
  ·have nj:Ld listed j:=by
    rcases(b0n bf).1 hL with e'|hL
    ·exact absurd e' e
    ·exact hL
   rw[same d' (fun e'=>e (hF.dr.uniq _ _ _ _ _ hj ho (b1h gc) (by rw[dy,e'])))]
   exact h.frd j o' s' d' hj d8 gc nj hd
 ·rcases(b0n bf).1 hL with e|hL
  ·subst e
   rw[ho]at hj
   cases hj
   exact(b0n bf).2 (.inr (hr l hw))
  ·exact Cn
 ·rcases(b0n bf).1 hL with e|hL
  ·subst e;omega
  ·exact h.no2 j o' hj d8 hL
theorem settle(hF:Fixed E nt ops st ρ0 ps es own0)(h:Inv1 E B0 X A w0 nt ops st a0 ρ0 ps es own0 K listed a w μ sd xs sr om)(bt:∀(i:Nat) (o:Oper),ops[i]?=some o→(kinds (kb E.c2 ops) ops).getD i 0≠2→(kinds (kb E.c2 ops) ops).getD i 0≠3→Ld listed i):
 SD E B0 X A w0 nt ⟨xs++(es++ρ0),om⟩ a w μ∧g11 E (kb E.c2 ops) nt ops K ⟨xs++(es++ρ0),om⟩:=by
 have fm:∀q∈ps,Ld listed q.i:=fun q hq=>bt q.i q.o (hF.pin q hq).1 (by rw[(hF.pin q hq).2];omega) (by rw[(hF.pin q hq).2];omega)
 refine⟨⟨h.own,h.fr,h.base,h.glo,h.dfr,h.size,fun t e he=> ?_,fun k hk=> ?_,h.anc⟩,?_⟩
 ·have j5:=b1a he
  simp only at he
  rw[c4d]at he
  split at he
  ·rename_i x hx
   cases he
   exact(h.xsE _ (b2e hx)).2.1
  rename_i Np
  rw[c4d]at he
  split at he
  ·rename_i x hx
   cases he
   obtain⟨q,hq,ho⟩:=(hF.es _).1 (b2e hx)
   have:=h.ent q hq (fm q hq)
   rw[ho]at this
   exact this
  ·rename_i hn
   have h0:=h.env0 t e he
   have gh:∀q∈ps,q.o.dst≠some t:=by
    intro q hq hd
    obtain⟨ρq,p,_,hs,_⟩:=hF.par.step q hq
    have gk:=(b3u hs).1
    rw[hd,J1]at gk
    obtain⟨e',rv,cc⟩:=gk
    exact c1n.1 hn e' ((hF.es _).2 ⟨q,hq,rv⟩) cc
   have st1:=h.tmp t (fun q hq _=>gh q hq) (by rw[←j5];exact hF.fno e (b2e he)) (fun s hs hd=>by
    obtain⟨e',dw,cc⟩:=h.xsA s hs t hd
    exact c1n.1 Np e' dw cc)
   unfold b0d at h0⊢
   rw[j5]at h0⊢
   split
   ·rename_i hg
    rw[hg]at h0
    simp only at h0
    rw[st1]
    exact h0
   ·rename_i g b hg
    rw[hg]at h0
    simp only at h0
    have sg:=h.tmp g (fun q hq _ hd=>hF.gno e (b2e he) g b hg q.i q.o (hF.pin q hq).1 hd) (fun hf=>by
     obtain⟨j,oj,h1,h2,h3⟩:=b2z.1 hf
     exact hF.gno e (b2e he) g b hg j oj h1 h3) (fun s hs hd=>by
     obtain⟨j,hj,_,_⟩:=h.sdL s hs
     exact hF.gno e (b2e he) g b hg j s hj hd)
    rw[st1,sg]
    exact h0
 ·simp only at hk
  rw[h.len]at hk
  refine h.fresh k (L3 hF.top hk) (fun q hq _ ha e=> ?_)
  have:=hF.par.top q hq ha
  omega
 ·have hsr:sr=[]:=by
   match sr,h.srU with
   | [],_=>rfl
   |x::r,hU=>
    obtain⟨u1,u2,u3⟩:=hU x Dv
    exact absurd (bt _ _ u1 Dt Dt) u3
  have:=h.sk
  rw[hsr]at this
  exact this
end
theorem c0t(ks:List Nat)(o:Oper):b60 ks o≤2:=by
 unfold b60
 split
 ·exact C0
 ·split<;>decide
theorem d5v(ks:List Nat)(o:Oper):c1d ks o≤2:=by
 unfold c1d
 split
 ·exact C0
 ·split
  ·exact C0
  ·exact c0t _ _
theorem d33(ks:List Nat)(o:Oper):c1k ks o≤2:=by
 unfold c1k
 split
 ·exact C0
 ·split
  ·decide
  ·split
   ·split<;>decide
   ·exact c0t _ _
theorem d3g(b:Nat)(ops:Array Oper)(i:Nat):(f79 b ops).getD i 0≤2:=by
 have:∀(l:List Oper) (ks:List Nat),(∀x∈ks,x≤2)→∀x∈l.foldl (fun ks o=>ks++[match b with|0=>b60 ks o|1=>c1d ks o|_=>c1k ks o]) ks,x≤2:=by
  intro l
  induction l with
  |nil=>intro ks h;exact h
  |cons o l ih=>
   intro ks h
   refine ih _ (fun x hx=> ?_)
   rcases Jf.1 hx with hx|hx
   ·exact h x hx
   ·rw[Jk.1 hx]
    split
    ·exact c0t _ _
    ·exact d5v _ _
    ·exact d33 _ _
 have h:=this ops.toList [] Dv
 rw[It]
 cases e:(f79 b ops)[i]? with
 |none=>simp
 |some x=>exact h x (J0 e)
theorem g6i(b:Nat)(ops:Array Oper)(i:Nat):(kinds b ops).getD i 0≤3:=by
 unfold kinds g9b
 split
 ·have:=d3g b ops i;omega
 ·simp only
  rw[It,Jv]
  cases ops.toList.zipIdx[i]? with
  |none=>simp
  |some x=>
   simp only[Ik]
   split
   ·exact C0
   ·have:=d3g b ops x.2;omega
theorem c8v{ops:Array Oper}{listed:Array Bool}(bk:listed.size=ops.size)(hl:∀(i:Nat) (o:Oper) (j:Nat),ops[i]?=some o→b35 o j=true→j<i){i:Nat}(h:i∈Region.ready .any ops listed):∃o,ops[i]?=some o∧¬Ld listed i∧∀j,b35 o j=true→Ld listed j:=by
 unfold Region.ready at h
 simp only[Kg,K1,Is]at h
 obtain⟨h1,h2,h3⟩:=h
 obtain⟨o,ho⟩:∃o,ops[i]?=some o:=⟨ops[i],Eh⟩
 refine⟨o,ho,by unfold Ld;rw[h2];simp,fun j hj=> ?_⟩
 have h9:=hl i o j ho hj
 rw[ho]at h3
 simp only[Ik]at h3
 rw[Array.all_eq_true_iff_forall_mem]at h3
 simp only[b35,Jc,In]at hj
 obtain⟨e,he,hb,rfl⟩:=hj
 have:=h3 e (by simpa using he)
 rw[hb]at this
 simp only[Bool.not_true,Mb]at this
 unfold Ld
 rw[←this]
 have dv:e.on<listed.size:=Dt
 simp[Array.getD,dv]
theorem f7n{ops:Array Oper}{listed:Array Bool}(hl:∀(i:Nat) (o:Oper) (j:Nat),ops[i]?=some o→b35 o j=true→j<i)(bk:listed.size=ops.size)(h:Region.ready .any ops listed=[]):∀(i:Nat) (o:Oper),ops[i]?=some o→Ld listed i:=by
 intro i
 induction i using Nat.strongRecOn with
 |_ i ih=>
  intro o ho
  have hi:i<ops.size:=(J9.1 ho).1
  by_cases hL:Ld listed i
  ·exact hL
  exfalso
  have:i∈Region.ready .any ops listed:=by
   unfold Region.ready
   simp only[Kg,K1,Is]
   refine⟨hi,by unfold Ld at hL;simpa using hL,?_⟩
   rw[ho]
   simp only[Ik]
   rw[Array.all_eq_true_iff_forall_mem]
   intro e he
   cases hb:Region.binds .any e with
   |false=>rfl
   |true=>
    have hw:b35 o e.on=true:=by
     simp only[b35,Jc,In]
     exact⟨e,by simpa using he,hb,rfl⟩
    have h9:=hl i o _ ho hw
    obtain⟨o',mt⟩:∃o',ops[e.on]?=some o':=⟨ops[e.on]'Dt,by simp[show e.on<ops.size from Dt]⟩
    have:=ih _ h9 o' mt
    unfold Ld at this
    have dv:e.on<listed.size:=Dt
    simp[Array.getD,dv]at this⊢
    exact this
  rw[h]at this
  simp at this
section
variable {E : Env} {B0 : Nat} {X A : Nat → Prop} {w0 : World} {nt : Nat} {ops : Array Oper} {st : St} {a0 : Act} {ρ0 : List Entry} {ps : List PI} {es : List Entry} {own0 : List Blk} {K : St → Prop}
theorem c4z{p:Nat→Bool}{t:Nat}{e:Entry}:∀{ρ:List Entry},b4a t (ρ.filter fun e=>p e.slot)=some e→b4a t ρ=some e
 | [],h=>by simp[b4a]at h
 |x::ρ,h=>by
  simp only[List.filter_cons]at h
  split at h
  ·simp only[b4a]at h⊢
   split
   ·rename_i hx;rw[Iw hx]at h;exact h
   ·rename_i hx;rw[Iy hx]at h;exact c4z h
  ·rename_i hp
   have h':=c4z h
   simp only[b4a]
   split
   ·rename_i hx
    exfalso
    have:∀{l:List Entry},b4a t (l.filter fun e=>p e.slot)=some e→p t=true:=by
     intro l hl
     have hs:=b1a hl
     have:=(Kg.1 (b2e hl)).2
     rw[hs]at this
     exact this
    rw[hx]at hp
    exact hp (this h)
   ·exact h'
theorem d3u{w:World}{H:Nat→Prop}{μ:Mu}{tmps:Array Value}{ds:List Nat}{ρ:List Entry}(h:b9j w H μ tmps ρ):b9j w H μ tmps (ρ.map (b4i ds)):=by
 intro t e he
 rw[b9d (b8h ds),J1]at he
 obtain⟨e0,jv,rfl⟩:=he
 have h0:=h t e0 jv
 unfold b4i
 split
 ·split
  ·exact .any
  ·exact h0
 ·exact h0
theorem f6y{w:World}{H:Nat→Prop}{μ:Mu}{tmps:Array Value}{ds:List Nat}{ρ:List Entry}(h:b9j w H μ tmps ρ):b9j w H μ tmps (ρ.filter fun e=> !ds.contains e.slot):=
 fun t e he=>h t e (c4z (p:=fun t=> !ds.contains t) he)
theorem c3f{ds:List Nat}{e:Entry}{g:Nat}{b:Bool}(hg:(b4i ds e).guard=some (g,b)):g∉ds:=by
 unfold b4i at hg
 split at hg
 ·rename_i g' b' nk
  split at hg
  ·cases hg
  ·rename_i hc
   rw[nk]at hg
   cases hg
   exact fun hm=>hc (by simpa using hm)
 ·rename_i gh
  rw[gh]at hg
  cases hg
def NoE(ds:List Nat)(ρ:List Entry):Prop:=∀e∈ρ,e.slot∉ds∧∀g b,e.guard=some (g,b)→g∉ds
theorem f9x{ds:List Nat}{ρ:List Entry}:NoE ds (g3u ds ρ):=by
 intro e he
 obtain⟨e0,jv,rfl⟩:=Ja.1 he
 refine⟨?_,fun g b hg=>c3f hg⟩
 rw[b8h]
 simpa using(Kg.1 jv).2
theorem j2p{w:World}{H:Nat→Prop}{μ:Mu}{tmps:Array Value}{ds:List Nat}{ρ:List Entry}(h:b9j w H μ tmps ρ):b9j w H μ tmps (g3u ds ρ):=d3u (f6y h)
theorem f1h(ρ:List Entry):g3u [] ρ=ρ:=by
 have:∀ρ:List Entry,ρ.map (b4i [])=ρ:=by
  intro ρ
  induction ρ with
  |nil=>rfl
  |cons e ρ ih=>
   have:b4i [] e=e:=by
    unfold b4i
    split
    ·simp
    ·rfl
   rw[Ma,this,ih]
 unfold g3u
 simp only[List.contains_nil,Bool.not_false]
 rw[List.filter_eq_self.2 (fun _ _=>rfl),this]
theorem SD.drp{a:Act}{w:World}{μ:Mu}{ds:List Nat}{st':St}(h:SD E B0 X A w0 nt st' a w μ):SD E B0 X A w0 nt ⟨g3u ds st'.ρ,st'.own⟩ a w μ:=
 ⟨h.own,h.fr,h.base,h.glo,h.dfr,h.size,j2p h.env,h.fresh,h.anc⟩
theorem wp_put{P:Program}{o:Oper}{a:Act}{w:World}{K:Act→World→Prop}{Q:Exit→Act→World→Prop}(h:o.wp P a w K Q):o.wp P a w (fun a' w'=>K a' w'∧∃v,a'.tmps=(a.put o.dst v).tmps) Q:=by
 unfold Oper.wp at*
 generalize (execOp a.eval o).run P w=r at*
 have wm:∀v:Value,∃v',(a.put o.dst v).tmps=(a.put o.dst v').tmps:=fun v=>⟨v,rfl⟩
 cases r with
 |ok n w'=>
  cases n<;>simp only[Oper.upon]at h⊢ <;>
   first
    |exact⟨h,_,rfl⟩
    |exact⟨h,undef,by cases o.dst<;>rfl⟩
    |exact Calls.mono h (fun e w'' he=>by cases e<;>first|exact⟨he,_,rfl⟩|exact he)
    |exact Rows.mono h (fun _ _ he=>⟨he,_,rfl⟩)
 |halt x w'=>cases x<;>simp only[Oper.upon]at h⊢ <;>exact h
theorem g7j(hE:EnvOK E)(hC:b1u E){a:Act}{w:World}{K':St→Prop}:∀(l:List Oper) {st1:St} {μ1:Mu} (r:List Oper),SD E B0 X A w0 nt st1 a w μ1→(∀o∈l,∃s d,b9t o=some (s,d)∧(d<nt→a.tmps.getD d undef=a.tmps.getD s undef))→f3b E nt ops K' (l++r) st1→
 ∃st2 μ2,SD E B0 X A w0 nt st2 a w μ2∧f3b E nt ops K' r st2:=by
 intro l
 induction l with
 |nil=>intro st1 μ1 r h _ hk;exact⟨st1,μ1,h,hk⟩
 |cons o l ih=>
  intro st1 μ1 r h hl hk
  simp only[L2,f3b]at hk
  split at hk
  rotate_left
  ·exact hk.elim
  rename_i p st2 hs
  rw[St.forceO_eq]at hk
  obtain⟨s,d,hf,hv⟩:=hl o Dv
  have:=b7b (K:=fun a' w'=>∃μ',SD E B0 X A w0 nt st2 a' w' μ') (Q:=fun _ _ _=>False) hE hC h hs hk.1.out (fun a' w' μ' h=>⟨μ',h⟩)
  rw[Iw Gv,d8t hf,g4p (fun hd=>hv (by rw[←h.size];exact hd))]at this
  obtain⟨μ2,h2⟩:=this
  exact ih r h2 (fun o' mt=>hl o' (by simp[mt])) hk.2
structure Inv2 (E:Env) (B0:Nat) (X A:Nat→Prop) (w0:World) (nt:Nat) (ops:Array Oper) (K:St→Prop) (listed:Array Bool) (a:Act) (w:World) (μ:Mu) (rest:List ((Oper×Nat)×List (Oper×Nat))) (st':St):Prop where
 sd:SD E B0 X A w0 nt st' a w μ
 sk:g59 E (kb E.c2 ops) nt ops (b4m (kb E.c2 ops) ops) K rest st'
 no:NoE (b4m (kb E.c2 ops) ops) st'.ρ
 low:∀(i:Nat) (o:Oper),ops[i]?=some o→(kinds (kb E.c2 ops) ops).getD i 0≠2→(kinds (kb E.c2 ops) ops).getD i 0≠3→Ld listed i
 mem:∀g∈rest,ops[g.1.2]?=some g.1.1∧(kinds (kb E.c2 ops) ops).getD g.1.2 0=2∧¬Ld listed g.1.2
 grp:∀g∈rest,∀f∈g.2,ops[f.2]?=some f.1∧(kinds (kb E.c2 ops) ops).getD f.2 0=3∧Reach ops g.1.2 f.2
 all:∀(i:Nat) (o:Oper),ops[i]?=some o→(kinds (kb E.c2 ops) ops).getD i 0=2→¬Ld listed i→∃fs,((o,i),fs)∈rest
 pair:rest.Pairwise (fun x y=>x.1.2<y.1.2)
 cl:∀(i:Nat) (o:Oper) (j:Nat),ops[i]?=some o→Ld listed i→b35 o j=true→Ld listed j
 fr:∀(i:Nat) (o:Oper) (s d:Nat),ops[i]?=some o→(kinds (kb E.c2 ops) ops).getD i 0=3→b9t o=some (s,d)→Ld listed i→d<nt→a.tmps.getD d undef=a.tmps.getD s undef
theorem g0i(hE:EnvOK E)(hC:b1u E)(hd:Draws (kb E.c2 ops) ops){listed:Array Bool}{a:Act}{w:World}{μ:Mu}{rest:List ((Oper×Nat)×List (Oper×Nat))}{st':St}(h:Inv2 E B0 X A w0 nt ops K listed a w μ rest st')(bk:listed.size=ops.size){i:Nat}{o:Oper}(ho:ops[i]?=some o)(df:(kinds (kb E.c2 ops) ops).getD i 0=2)
 (hi:¬Ld listed i) (hr:∀j,b35 o j=true→Ld listed j) {Kc:Act→World→Prop} {Q:Exit→Act→World→Prop}
 (hK:∀a' w' μ' rest' st'',Inv2 E B0 X A w0 nt ops K (listed.setIfInBounds i true) a' w' μ' rest' st''→Kc a' w'):wpOp E.P ops Q i Kc a w:=by
 have bf:i<listed.size:=F7
 obtain⟨fs,cy⟩:=h.all i o ho df hi
 have dz:=h.sk
 have hm:=h.mem
 have hp:=h.pair
 have ha:=h.all
 have hg:=h.grp
 match rest,cy,dz,hm,hp,ha,hg with
 |((o',i'),fs')::r,cy,dz,hm,hp,ha,hg=>
  rw[Ku]at hp
  have pw:((o,i),fs)=((o',i'),fs'):=by
   rcases J8.1 cy with e|ju
   ·exact e
   ·exfalso
    have h9:i'<i:=hp.1 _ ju
    obtain⟨u1,u2,u3⟩:=hm ((o',i'),fs') Dv
    simp only at u2
    exact u3 (b5r h.cl (hd.last i o i' o' ho df u1 Dt Dt Dt) ho hr)
  cases pw
  simp only[g59]at dz
  obtain⟨st2,μ2,h2,dz⟩:=g7j hE hC (fs.map (·.1)) [o] h.sd (fun o1 wc=>by
   obtain⟨f,hf,rfl⟩:=Ja.1 wc
   obtain⟨u1,u2,u3⟩:=hg ((o,i),fs) Dv f hf
   obtain⟨s,d,f1,_⟩:=hd.free _ _ u1 u2
   exact⟨s,d,f1,h.fr _ _ _ _ u1 u2 f1 (b5r h.cl u3 ho hr)⟩) dz
  simp only[f3b]at dz
  split at dz
  rotate_left
  ·exact dz.elim
  rename_i p st1 hs
  simp only[St.force_eq,St.forceO_eq]at dz
  have main:=b7b (K:=fun a' w'=>∃μ',SD E B0 X A w0 nt st1 a' w' μ') (Q:=Q) hE hC h2 hs dz.1.out (fun a' w' μ' cc=>⟨μ',cc⟩)
  have fin:∀a' w',((∃μ',SD E B0 X A w0 nt st1 a' w' μ')∧∃v,a'.tmps=(a.put o.dst v).tmps)→Kc a' w':=by
   rintro a' w' ⟨⟨μ',cc⟩,v,hv⟩
   refine hK a' w' μ' r _ ⟨cc.drp,dz.2,f9x,fun j o' hj hk qp=>(b0n bf).2 (.inr (h.low j o' hj hk qp)),fun x hx=> ?_,fun g nk=>hg g (by simp[nk]),fun j o' hj d8 hn=> ?_,hp.2,fun j o' k hj hL hw=> ?_,fun j o' s d hj d8 gc hL h9=> ?_⟩
   ·obtain⟨u1,u2,u3⟩:=hm x Ef
    refine⟨u1,u2,fun hL=> ?_⟩
    rcases(b0n bf).1 hL with e|hL
    ·have:=hp.1 x hx;simp only at this;omega
    ·exact u3 hL
   ·obtain⟨fs',ju⟩:=ha j o' hj d8 (fun hL=>hn ((b0n bf).2 (.inr hL)))
    rcases J8.1 ju with e|ju
    ·cases e;exact absurd ((b0n bf).2 (.inl rfl)) hn
    ·exact⟨fs',ju⟩
   ·refine(b0n bf).2 (.inr ?_)
    rcases(b0n bf).1 hL with e|hL
    ·subst e
     rw[ho]at hj
     cases hj
     exact hr _ hw
    ·exact h.cl _ _ _ hj hL hw
   ·have bb:j≠i:=fun e=>by rw[e]at d8;omega
    have nj:Ld listed j:=by
     rcases(b0n bf).1 hL with e|hL
     ·exact absurd e bb
     ·exact hL
    obtain⟨s',d',f1,f2⟩:=hd.free j o' hj d8
    rw[gc]at f1
    cases f1
    rw[hv,b5e (fun e=>bb (hd.uniq _ _ _ _ _ hj ho (b1h gc) e)),b5e (f2 i o ho).1]
    exact h.fr j o' s d hj d8 gc nj h9
  unfold wpOp
  rw[ho]
  simp only
  split
  ·rename_i hw;rw[Iw hw]at main;exact .inl (Oper.wp_mono fin (wp_put main))
  ·rename_i hw;rw[Iy hw]at main;exact fin _ _ ⟨main,_,rfl⟩
theorem g04(hd:Draws (kb E.c2 ops) ops){listed:Array Bool}{a:Act}{w:World}{μ:Mu}{rest:List ((Oper×Nat)×List (Oper×Nat))}{st':St}(h:Inv2 E B0 X A w0 nt ops K listed a w μ rest st')(bk:listed.size=ops.size){i:Nat}{o:Oper}(ho:ops[i]?=some o)(hk:(kinds (kb E.c2 ops) ops).getD i 0=3)
 (hr:∀j,b35 o j=true→Ld listed j) {Kc:Act→World→Prop} {Q:Exit→Act→World→Prop}
 (hK:∀a' w' μ' rest' st'',Inv2 E B0 X A w0 nt ops K (listed.setIfInBounds i true) a' w' μ' rest' st''→Kc a' w'):wpOp E.P ops Q i Kc a w:=by
 have bf:i<listed.size:=F7
 obtain⟨s,d,hf,mb⟩:=hd.free i o ho hk
 have dy:=b1h hf
 have N0:d∈b4m (kb E.c2 ops) ops:=b2z.2 ⟨i,o,ho,hk,dy⟩
 unfold wpOp
 rw[ho]
 simp only
 rw[Iw Gv]
 refine .inl ((d8t hf).2 (hK _ w μ rest st' ?_))
 have hS:=h.sd
 refine⟨⟨hS.own,hS.fr,hS.base,hS.glo,hS.dfr,by simp[Act.put,hS.size],fun t e he=> ?_,hS.fresh,hS.anc⟩,h.sk,h.no,fun j o' hj hk qp=>(b0n bf).2 (.inr (h.low j o' hj hk qp)),fun x hx=> ?_,h.grp,fun j o' hj d8 hn=>h.all j o' hj d8 (fun hL=>hn ((b0n bf).2 (.inr hL))),h.pair,fun j o' k hj hL hw=> ?_,fun j o' s' d' hj d8 gc hL h9=> ?_⟩
 ·obtain⟨n1,n2⟩:=h.no e (b2e he)
  exact(hS.env t e he).put (fun fh=>n1 (by rw[←Jp fh];exact N0)) (fun g b hg fh=>n2 g b hg (by rw[←Jp fh];exact N0))
 ·obtain⟨u1,u2,u3⟩:=h.mem x hx
  refine⟨u1,u2,fun hL=> ?_⟩
  rcases(b0n bf).1 hL with e|hL
  ·rw[e]at u2;omega
  ·exact u3 hL
 ·refine(b0n bf).2 (.inr ?_)
  rcases(b0n bf).1 hL with e|hL
  ·subst e
   rw[ho]at hj
   cases hj
   exact hr _ hw
  ·exact h.cl _ _ _ hj hL hw
 ·obtain⟨s1,d1,f1,f2⟩:=hd.free j o' hj d8
  rw[gc]at f1
  cases f1
  have py:s'≠d:=fun e=>(f2 i o ho).1 (by rw[dy,e])
  rw[b5e (a:=a) (fun e=>py (Jp e).symm)]
  by_cases e:j=i
  ·subst e
   rw[ho]at hj
   cases hj
   rw[hf]at gc
   cases gc
   rw[g7g (by rw[hS.size];exact h9)]
  ·have nj:Ld listed j:=by
    rcases(b0n bf).1 hL with e'|hL
    ·exact absurd e' e
    ·exact hL
   rw[b5e (a:=a) (fun e'=>e (hd.uniq _ _ _ _ _ hj ho (b1h gc) (by rw[dy];exact e')))]
   exact h.fr j o' s' d' hj d8 gc nj h9
def j4v(E:Env)(B0:Nat)(X A:Nat→Prop)(w0:World)(nt:Nat)(ops:Array Oper)(st:St)(a0:Act)(ρ0:List Entry)(ps:List PI)(es:List Entry)(own0:List Blk)(K:St→Prop)(listed:Array Bool)(a:Act)(w:World):Prop:=
 (∃μ sd xs sr om,Inv1 E B0 X A w0 nt ops st a0 ρ0 ps es own0 K listed a w μ sd xs sr om)∨∃μ rest st',Inv2 E B0 X A w0 nt ops K listed a w μ rest st'
theorem g5i{ops:Array Oper}(hn:b2q (kb E.c2 ops) ops 3=[]):∀(l:List ((Oper×Nat)×List (Oper×Nat))) (st1:St),(∀g∈l,g.2=[])→f3b E nt ops K (l.map (·.1.1)) st1→g59 E (kb E.c2 ops) nt ops [] K l st1:=by
 intro l
 induction l with
 |nil=>intro st1 _ h;simp only[g59,hn];exact h
 |cons g l ih=>
  intro st1 hl h
  simp only[g59,hl g Dv,List.map_nil,List.nil_append]
  simp only[Ma,f3b]at h⊢
  split
  ·rename_i p st2 hs
   rw[hs]at h
   simp only[St.force_eq,St.forceO_eq,f1h]at h⊢
   exact⟨h.1,ih _ (fun g' nk=>hl g' (by simp[nk])) h.2⟩
  ·rename_i hs
   rw[hs]at h
   exact h
theorem f4d(hd:Draws (kb E.c2 ops) ops){st1:St}(h:g11 E (kb E.c2 ops) nt ops K st1):g59 E (kb E.c2 ops) nt ops (b4m (kb E.c2 ops) ops) K (d3k (kb E.c2 ops) ops) ⟨g3u (b4m (kb E.c2 ops) ops) st1.ρ,st1.own⟩:=by
 unfold g11 at h
 split at h
 ·rename_i hn
  have h3:b2q (kb E.c2 ops) ops 3=[]:=by
   refine List.eq_nil_iff_forall_not_mem.2 (fun x hx=> ?_)
   obtain⟨u1,u2⟩:=b18.1 (show (x.1,x.2)∈b2q (kb E.c2 ops) ops 3 from hx)
   obtain⟨s,d,f1,_⟩:=hd.free _ _ u1 u2
   have:d∈b4m (kb E.c2 ops) ops:=b2z.2 ⟨x.2,x.1,u1,u2,b1h f1⟩
   rw[hn]at this
   cases this
  rw[hn,f1h]
  refine g5i h3 _ _ (fun g hg=> ?_) ?_
  ·unfold d3k at hg
   obtain⟨x,_,rfl⟩:=Ja.1 hg
   simp[h3]
  ·unfold d3k
   rw[M6]
   exact h
 ·rename_i d ds hn
  rw[St.force_eq]at h
  rw[hn]
  exact h
theorem g9q(hF:Fixed E nt ops st ρ0 ps es own0){listed:Array Bool}{a:Act}{w:World}{μ:Mu}{sd:List Oper}{xs:List Entry}{sr:List (Oper×Nat)}{om:List Blk}(h:Inv1 E B0 X A w0 nt ops st a0 ρ0 ps es own0 K listed a w μ sd xs sr om)(bt:∀(i:Nat) (o:Oper),ops[i]?=some o→(kinds (kb E.c2 ops) ops).getD i 0≠2→(kinds (kb E.c2 ops) ops).getD i 0≠3→Ld listed i):
 Inv2 E B0 X A w0 nt ops K listed a w μ (d3k (kb E.c2 ops) ops) ⟨g3u (b4m (kb E.c2 ops) ops) (xs++(es++ρ0)),om⟩:=by
 obtain⟨h1,h2⟩:=settle hF h bt
 refine⟨h1.drp,f4d hF.dr h2,f9x,bt,fun x hx=> ?_,fun x hx f hf=> ?_,fun i o ho hk hn=> ?_,?_,h.closed,fun i o s d ho hk gc hL h9=> ?_⟩
 ·unfold d3k at hx
  obtain⟨y,hy,rfl⟩:=Ja.1 hx
  obtain⟨u1,u2⟩:=b18.1 (show (y.1,y.2)∈b2q (kb E.c2 ops) ops 2 from hy)
  exact⟨u1,u2,h.no2 _ _ u1 u2⟩
 ·unfold d3k at hx
  obtain⟨y,hy,rfl⟩:=Ja.1 hx
  obtain⟨u1,u2⟩:=b18.1 (show (y.1,y.2)∈b2q (kb E.c2 ops) ops 2 from hy)
  obtain⟨pz,rh⟩:=Kg.1 hf
  obtain⟨v1,v2⟩:=b18.1 (show (f.1,f.2)∈b2q (kb E.c2 ops) ops 3 from pz)
  refine⟨v1,v2,?_⟩
  obtain⟨s,d,f1,f2⟩:=hF.dr.free _ _ v1 v2
  rw[b1h f1]at rh
  exact((f2 _ _ u1).2 (by simpa using rh)).2
 ·exact⟨_,Ja.2 ⟨(o,i),b18.2 ⟨ho,hk⟩,rfl⟩⟩
 ·unfold d3k
  rw[L9]
  exact b9w _ _ _
 ·obtain⟨s',d',f1,f2⟩:=hF.dr.free _ _ ho hk
  rw[gc]at f1
  cases f1
  rw[h.frd i o s d ho hk gc hL h9]
  exact(h.tmp s (fun q hq _=>(f2 q.i q.o (hF.pin q hq).1).1) (fun hD=>by
   obtain⟨j,o',g1,_,g3⟩:=b2z.1 hD
   exact(f2 j o' g1).1 g3) (fun s' cc=>by
   obtain⟨j,hj,_,_⟩:=h.sdL s' cc
   exact(f2 j s' hj).1)).symm
theorem walk(hE:EnvOK E)(hC:b1u E)(hF:Fixed E nt ops st ρ0 ps es own0){Q:Exit→Act→World→Prop}(hQ:∀st' a' w' μ',SD E B0 X A w0 nt st' a' w' μ'→K st'→Q .normal a' w'):∀(fuel:Nat) (listed:Array Bool) (U:List Nat) (a:Act) (w:World),
 listed.size=ops.size→(∀(i:Nat) (o:Oper),ops[i]?=some o→¬Ld listed i→i∈U)→U.length≤fuel→j4v E B0 X A w0 nt ops st a0 ρ0 ps es own0 K listed a w→wpAny E.P .any ops Q fuel listed a w:=by
 have fin:∀(listed:Array Bool) (a:Act) (w:World),j4v E B0 X A w0 nt ops st a0 ρ0 ps es own0 K listed a w→(∀(i:Nat) (o:Oper),ops[i]?=some o→Ld listed i)→Q .normal a w:=by
  intro listed a w h bt
  have two:∀{μ rest st'},Inv2 E B0 X A w0 nt ops K listed a w μ rest st'→Q .normal a w:=by
   intro μ rest st' h
   have:rest=[]:=by
    match rest,h.mem with
    | [],_=>rfl
    |x::r,hm=>obtain⟨u1,_,u3⟩:=hm x Dv;exact absurd (bt _ _ u1) u3
   have hk:=h.sk
   rw[this]at hk
   simp only[g59]at hk
   obtain⟨st2,μ2,h2,df⟩:=g7j hE hC ((b2q (kb E.c2 ops) ops 3).map (·.1)) [] h.sd (fun o ho=>by
    obtain⟨f,hf,rfl⟩:=Ja.1 ho
    obtain⟨u1,u2⟩:=b18.1 (show (f.1,f.2)∈b2q (kb E.c2 ops) ops 3 from hf)
    obtain⟨s,d,f1,_⟩:=hF.dr.free _ _ u1 u2
    exact⟨s,d,f1,h.fr _ _ _ _ u1 u2 f1 (bt _ _ u1)⟩) (by rw[List.append_nil];exact hk)
   exact hQ _ _ _ _ h2 df
  rcases h with⟨μ,sd,xs,sr,om,h⟩|⟨μ,rest,st',h⟩
  ·exact two (g9q hF h (fun i o ho _ _=>bt i o ho))
  ·exact two h
 intro fuel
 induction fuel with
 |zero=>
  intro listed U a w bk hU hl h
  have bt:∀(i:Nat) (o:Oper),ops[i]?=some o→Ld listed i:=by
   intro i o ho
   by_cases hL:Ld listed i
   ·exact hL
   ·have:=hU i o ho hL
    rw[Lg.1 (by omega:U.length=0)]at this
    simp at this
  refine⟨?_,fin listed a w h bt⟩
  refine List.eq_nil_iff_forall_not_mem.2 (fun i hi=> ?_)
  obtain⟨o,ho,hn,_⟩:=c8v bk hF.dr.lt hi
  exact hn (bt i o ho)
 |succ fuel ih=>
  intro listed U a w bk hU hl h
  refine⟨fun h0=>fin listed a w h (f7n hF.dr.lt bk h0),fun i hi=> ?_⟩
  obtain⟨o,ho,hn,hr⟩:=c8v bk hF.dr.lt hi
  have hiU:=hU i o ho hn
  have bf:i<listed.size:=F7
  have next:∀a' w',j4v E B0 X A w0 nt ops st a0 ρ0 ps es own0 K (listed.setIfInBounds i true) a' w'→wpAny E.P .any ops Q fuel (listed.setIfInBounds i true) a' w':=by
   intro a' w' hs
   refine ih _ (U.erase i) a' w' (by simpa using bk) (fun j o' hj Q9=> ?_) ?_ hs
   ·have bb:j≠i:=fun e=>Q9 ((b0n bf).2 (.inl e))
    exact(List.mem_erase_of_ne bb).2 (hU j o' hj (fun hL=>Q9 ((b0n bf).2 (.inr hL))))
   ·rw[List.length_erase_of_mem hiU];omega
  have two:∀{μ rest st'},Inv2 E B0 X A w0 nt ops K listed a w μ rest st'→wpOp E.P ops Q i (wpAny E.P .any ops Q fuel (listed.setIfInBounds i true)) a w:=by
   intro μ rest st' h
   by_cases h3:(kinds (kb E.c2 ops) ops).getD i 0=3
   ·exact g04 hF.dr h bk ho h3 hr (fun a' w' μ' rest' st'' h'=>next a' w' (.inr ⟨μ',rest',st'',h'⟩))
   have h2:(kinds (kb E.c2 ops) ops).getD i 0=2:=by
    by_cases h2:(kinds (kb E.c2 ops) ops).getD i 0=2
    ·exact h2
    ·exact absurd (h.low i o ho h2 h3) hn
   exact g0i hE hC hF.dr h bk ho h2 hn hr (fun a' w' μ' rest' st'' h'=>next a' w' (.inr ⟨μ',rest',st'',h'⟩))
  rcases h with⟨μ,sd,xs,sr,om,h⟩|⟨μ,rest,st',h⟩
  ·have hk:=g6i (kb E.c2 ops) ops i
   by_cases h0:(kinds (kb E.c2 ops) ops).getD i 0=0
   ·exact g3h hE hC hF h bk ho h0 hn hr (fun a' w' μ' h'=>next a' w' (.inl ⟨μ',sd,xs,sr,om,h'⟩))
   by_cases h1:(kinds (kb E.c2 ops) ops).getD i 0=1
   ·exact f4z hC hF h bk ho h1 hn hr (fun a' w' μ' sd' xs' sr' om' h'=>next a' w' (.inl ⟨μ',sd',xs',sr',om',h'⟩))
   by_cases h3:(kinds (kb E.c2 ops) ops).getD i 0=3
   ·exact g14 hF h bk ho h3 hn hr (fun a' w' μ' h'=>next a' w' (.inl ⟨μ',sd,xs,sr,om,h'⟩))
   have h2:(kinds (kb E.c2 ops) ops).getD i 0=2:=Dt
   refine two (g9q hF h (fun j o' hj d8 hkj3=>b5r h.closed (hF.dr.last i o j o' ho h2 hj (fun e=>d8 (e▸h2)) (fun hc=>d8 hc.1) hkj3) ho hr))
  ·exact two h
theorem f3f(hE:EnvOK E)(hC:b1u E)(hm:E.P.follows .mixedOrders=true){id:Nat}(b6:c9i (kb E.c2 ops) ops=true){a:Act}{w:World}{μ:Mu}(h:SD E B0 X A w0 nt st a w μ)(hw:j38 E nt ops K st){R:Exit→Act→World→Prop}
 (hR:∀st' a' w' μ',SD E B0 X A w0 nt st' a' w' μ'→K st'→R .normal a' w'):(Code.region id ops true).wp E.P R a w:=by
 have hd:=g4e b6
 refine wp_region_any hm ?_
 change wpAny E.P .any ops R ops.size (Array.replicate ops.size false) a w.drew
 simp only[j38,f7c,j3h]at hw
 generalize hρ0:(st.ρ.filter fun e=> !(b4m (kb E.c2 ops) ops).contains e.slot).map (b4i (ops.toList.filterMap (·.dst)))=ρ0 at hw
 obtain⟨ps,es,own0,wy,qm,hk,c6,bt,_,htop,huni⟩:=j3c (base:=st.own) (b2q (kb E.c2 ops) ops 0) [] [] st.own hw ⟨Dv,Dv,Dv,Dv,fun _ _ h=>h,Dv⟩ Dv Dv Dv (b9w _ _ _) (J2 _) Dv
 have wz:∀q∈ps,ops[q.i]?=some q.o∧(kinds (kb E.c2 ops) ops).getD q.i 0=0:=by
  intro q hq
  rcases c6 q hq with h|h
  ·simp at h
  ·exact b18.1 h
 have hF:Fixed E nt ops st ρ0 ps es own0:=by
  refine⟨hd,wy,wz,fun i o ho hk=>bt (o,i) (b18.2 ⟨ho,hk⟩),qm,fun e he=> ?_,fun e he g b hg i o ho dy=> ?_,htop,huni⟩
  ·rw[←hρ0,Ja]at he
   obtain⟨e0,jv,rfl⟩:=he
   rw[b8h]
   simpa using(Kg.1 jv).2
  ·rw[←hρ0,Ja]at he
   obtain⟨e0,_,rfl⟩:=he
   exact c3f hg (Mk.2 ⟨o,Array.mem_toList_iff.2 (Array.mem_of_getElem? ho),dy⟩)
 have fq:∀i,i<ops.size→¬Ld (Array.replicate ops.size false) i:=by
  intro i hi;unfold Ld;simp[hi]
 refine walk (a0:=a) hE hC hF hR ops.size _ (List.range ops.size) a w.drew Dv (fun i o ho _=>by simpa using(J9.1 ho).1) Dv (.inl ⟨μ,[],[],b2q (kb E.c2 ops) ops 1,own0,?_⟩)
 have lt:∀{i:Nat} {o:Oper},ops[i]?=some o→i<ops.size:=fun ho=>(J9.1 ho).1
 refine⟨(h.own.drew).more wy.base,rfl,h.fr.trans Fr.drew,h.base,b21 Keeps.drew h.glo,h.dfr,h.size,hk,.inl rfl,Dv,Dv,Dv,fun x hx=> ?_,fun i o ho hk _=>b18.2 ⟨ho,hk⟩,b9w _ _ _,
  fun q hq hL=>absurd hL (fq _ (lt (wz q hq).1)),fun t _ _ _=>rfl,fun i o s d ho _ _ hL=>absurd hL (fq _ (lt ho)),fun k hk _=>h.fresh k hk,?_,fun i o j ho hL=>absurd hL (fq _ (lt ho)),h.anc,fun i o ho _=>fq _ (lt ho)⟩
 ·obtain⟨u1,u2⟩:=b18.1 (show (x.1,x.2)∈b2q (kb E.c2 ops) ops 1 from hx)
  exact⟨u1,u2,fq _ (lt u1)⟩
 ·rw[←hρ0]
  have he:b9j w.drew (held A μ) μ a.tmps st.ρ:=fun t e he=>b0d.keep Keeps.drew (h.env t e he)
  exact d3u (f6y he)
end
def addE(ρ:List Entry)(t:Nat)(s:SV):List Entry:=⟨t,none,s⟩::ρ
def b6a:List (TypeId×Nat)→List (Nat×(Nat→List SV))→List Blk
 |t::ts,r::rs=>.row t.1 t.2 r.1 r.2 none::b6a ts rs
 |_,_=>[]
theorem b6b:∀(ts:List (TypeId×Nat)) (rs:List (Nat×(Nat→List SV))),ts.length=rs.length→(b6a ts rs).length=ts.length
 | [],[],_=>rfl
 |t::ts,r::rs,h=>by simp only[b6a,K3,b6b ts rs E1]
 | [],_::_,h=>E7
 |_::_,[],h=>E7
theorem c58:∀(ts:List (TypeId×Nat)) (rs:List (Nat×(Nat→List SV))) (j:Nat) (b:Blk),(b6a ts rs)[j]?=some b→∃t r,ts[j]?=some t∧rs[j]?=some r∧b=.row t.1 t.2 r.1 r.2 none
 | [],_,j,b,h=>by simp[b6a]at h
 |_::_,[],j,b,h=>by simp[b6a]at h
 |t::ts,r::rs,0,b,h=>by simp[b6a]at h;exact⟨t,r,rfl,rfl,h.symm⟩
 |t::ts,r::rs,j+1,b,h=>by
  obtain⟨t',r',h1,h2,h3⟩:=c58 ts rs j b (by simpa[b6a]using h)
  exact⟨t',r',by simpa using h1,by simpa using h2,h3⟩
theorem c07{qs:List (List Value)}{i i' j:Nat}{us:List Value}{u:Value}(h:(qs.set i [])[i']?=some us)(hu:us[j]?=some u):i'≠i∧qs[i']?=some us:=by
 by_cases e:i=i'
 ·subst e
  by_cases hl:i<qs.length
  ·rw[K9 hl]at h
   cases h
   simp at hu
  ·rw[L0 E9]at h
   cases h
 ·rw[Jb e]at h
  exact⟨Ne.symm e,h⟩
def g1g(E:Env)(t:Nat)(st:St):Option (Prop×St):=match b4a t st.ρ with
 |some ⟨_,none,.fp ok k i 0⟩=>match st.own[k]? with
  |some (.fam T Ts n none F)=>match F i with
   |⟨cs,rows⟩=>if Ts.length=rows.length∧E.ak k=false then
      some (ok=true∧i<n,⟨addE st.ρ t (.own st.own.length 0),st.own.set k (.fam T Ts n (some (i,st.own.length)) F)++ .cells T (cs.map (SV.ren0 fun j=>some (st.own.length+1+j)))::b6a Ts rows⟩)
    else none
  |_=>none
 |_=>none
section
variable {E : Env} {B0 : Nat} {X A : Nat → Prop} {w0 : World} {nt : Nat} {st : St} {a : Act} {w : World} {μ : Mu}
theorem b9j.add{w:World}{H:Nat→Prop}{μ:Mu}{tmps:Array Value}{ρ:List Entry}(h:b9j w H μ tmps ρ){t:Nat}{s:SV}(hs:D w H μ s (tmps.getD t undef)):b9j w H μ tmps (addE ρ t s):=by
 intro t' e he
 simp only[addE,b4a]at he
 split at he
 ·rename_i e1
  cases he
  unfold b0d
  exact hs
 ·exact h t' e he
theorem d3f(h:SD E B0 X A w0 nt st a w μ){t:Nat}{pre:Prop}{st':St}(he:g1g E t st=some (pre,st'))(hp:pre):∃μ',SD E B0 X A w0 nt st' a w μ':=by
 unfold g1g at he
 split at he
 rotate_left
 ·cases he
 rename_i t' ok k i rx
 split at he
 rotate_left
 ·cases he
 rename_i T Ts n F hk
 split at he
 rename_i cs rows hF
 split at he
 rotate_left
 ·cases he
 rename_i b8
 obtain⟨b8,n8⟩:=b8
 simp only[Ib]at he
 obtain⟨rfl,rfl⟩:=he
 obtain⟨rfl,hi⟩:=hp
 have mu:=h.env t _ rx
 have gk:=b1a rx
 simp only at gk
 subst gk
 unfold b0d at mu
 simp only at mu
 generalize hv:a.tmps.getD t' undef=v at mu
 cases mu with
 |fp Qa=>
 simp only[K5]at Qa
 obtain⟨ps,qs,b,hμk,vk,rfl⟩:=Qa
 obtain⟨bl,e,b6⟩:=h.own.blk _ _ hμk
 rw[hk]at e
 cases e
 obtain⟨ps',qs',e1,cf,_⟩:=b6
 simp only[Option.map_none]at cf
 obtain⟨rfl,rfl⟩:=b98 e1
 obtain⟨b',us,h1,h2,h3⟩:=cf.mem i hi
 rw[vk]at h1
 cases h1
 rcases h3 with⟨h3,_⟩|⟨_,us',rfl,cy⟩
 ·cases h3
 have pt:k<st.own.length:=(Iz.1 hk).1
 have bf:i<qs.length:=by rw[cf.ql];exact hi
 rw[hF]at cy
 let L:=st.own.length
 let μ':Mu:=fun j=>if j=k then some (b4h ps (qs.set i []))else if j=L then some (.pointer (some ⟨b,0,none⟩))else if L<j then us'[j-L-1]? else μ j
 have m1:μ' k=some (b4h ps (qs.set i [])):=by simp[μ']
 have m2:μ' L=some (.pointer (some ⟨b,0,none⟩)):=by simp[μ',show¬L=k from Dt]
 have m3:∀j,L<j→μ' j=us'[j-L-1]?:=fun j hj=>by simp[μ',show¬j=k from Dt,show¬j=L from Dt,hj]
 have m4:∀j,j≠k→j<L→μ' j=μ j:=fun j h1 h2=>by simp[μ',h1,show¬j=L from Dt,show¬L<j from Dt]
 have bq:∀{j x},μ' j=some x→(j=k∧x=b4h ps (qs.set i []))∨(j=L∧x=.pointer (some ⟨b,0,none⟩))∨(L<j∧us'[j-L-1]?=some x)∨(j≠k∧j<L∧μ j=some x):=by
  intro j x hj
  by_cases e1:j=k
  ·subst e1;rw[m1]at hj;exact .inl ⟨rfl,(Jp hj).symm⟩
  ·by_cases e2:j=L
   ·subst e2;rw[m2]at hj;exact .inr (.inl ⟨rfl,(Jp hj).symm⟩)
   ·by_cases e3:L<j
    ·rw[m3 j e3]at hj;exact .inr (.inr (.inl ⟨e3,hj⟩))
    ·rw[m4 j e1 Dt]at hj;exact .inr (.inr (.inr ⟨e1,Dt,hj⟩))
 have h8:∀(j:Nat) (u:Value),us'[j]?=some u→∃t r,Ts[j]?=some t∧rows[j]?=some r∧b9f w (held A μ) (loc us') u t.1 t.2 r.1 r.2 none:=by
  intro j u hu
  have h9:j<us'.length:=(Iz.1 hu).1
  have l1:=cy.len
  have l2:=cy.rlen
  simp only at l2
  have g1:Ts[j]?=some (Ts[j]'Dt):=Iv _
  have g2:rows[j]?=some (rows[j]'Dt):=Iv _
  exact⟨_,_,g1,g2,cy.rows j _ _ u g1 g2 hu⟩
 have gk:∀(j:Nat) (u:Value),us'[j]?=some u→∃a n m,u=.slice a n m:=fun j u hu=>by
  obtain⟨_,_,_,_,a,m,e,_⟩:=h8 j u hu
  exact⟨_,_,_,e⟩
 have hold:∀{j x c},μ' j=some x→Has x c→(∃(i' j':Nat) (us2:List Value) (u:Value),qs[i']?=some us2∧us2[j']?=some u∧b2t u=some c∧((j=k∧i'≠i)∨(j=L+j'∧i'=i)))∨(j≠k∧j<L∧μ j=some x):=by
  intro j x c hj hx
  rcases bq hj with⟨rfl,rfl⟩|⟨rfl,rfl⟩|⟨h9,hu⟩|h4
  ·obtain⟨us2,u,g1,g2,g3⟩:=b52.1 hx
   obtain⟨i',b7⟩:=Kj.1 g1
   obtain⟨j',bh⟩:=Kj.1 g2
   obtain⟨e1,e2⟩:=c07 b7 bh
   exact .inl ⟨i',j',us2,u,e2,bh,g3,.inl ⟨rfl,e1⟩⟩
  ·refine .inl ⟨i,0,_,_,h2,rfl,?_,.inr ⟨rfl,rfl⟩⟩
   have e:=d6m.1 hx
   simp only at e
   subst e
   rfl
  ·obtain⟨a,n,m,rfl⟩:=gk _ _ hu
   refine .inl ⟨i,j-L,_,_,h2,?_,b5d.1 hx,.inr ⟨Dt,rfl⟩⟩
   rw[show j-L=(j-L-1)+1 from Dt]
   simpa using hu
  ·exact .inr h4
 have ce:∀{i' j' us2 u c},qs[i']?=some us2→us2[j']?=some u→b2t u=some c→Has (b4h ps qs) c:=fun g1 g2 g3=>b52.2 ⟨_,_,J0 g1,J0 g2,g3⟩
 have bp:∀c,held A μ' c→held A μ c:=by
  rintro c (hc|⟨j,x,hj,hx⟩)
  ·exact .inl hc
  ·rcases hold hj hx with⟨i',j',us2,u,g1,g2,g3,_⟩|⟨_,_,bh⟩
   ·exact .inr ⟨k,_,hμk,ce g1 g2 g3⟩
   ·exact .inr ⟨j,x,bh,hx⟩
 have hμ:∀j x,μ j=some x→(∀ps qs,x≠b4h ps qs)→μ' j=some x:=by
  intro j x hj hx
  have bb:j≠k:=fun e=>by subst e;rw[hμk]at hj;exact hx _ _ (Jp hj).symm
  have h9:j<L:=by
   rcases M5 j L with h'|h'
   ·exact h'
   ·rw[h.fresh j h']at hj;cases hj
  rw[m4 j bb h9];exact hj
 have hf:∀j ps2 qs2,μ j=some (b4h ps2 qs2)→∃ps' qs',μ' j=some (b4h ps' qs')∧∀(i:Nat) (p:Value),ps2[i]?=some p→ps'[i]?=some p:=by
  intro j ps2 qs2 hj
  by_cases e:j=k
  ·subst e
   rw[hμk]at hj
   obtain⟨rfl,rfl⟩:=b98 (Jp hj)
   exact⟨_,_,m1,fun _ _ h=>h⟩
  ·have h9:j<L:=by
    rcases M5 j L with h'|h'
    ·exact h'
    ·rw[h.fresh j h']at hj;cases hj
   exact⟨_,_,(m4 j e h9).trans hj,fun _ _ h=>h⟩
 have hd:∀s v,D w (held A μ) μ s v→D w (held A μ') μ' s v:=fun s v h=>h.shift bp hμ hf
 refine⟨μ',⟨fun j x hj=> ?_,fun j j' x x' c hj bh hx d4=> ?_,fun j x c hj hx=> ?_,h.own.bnd⟩,h.fr,h.base,fun g s hg=>⟨(h.glo g s hg).1,hd _ _ (h.glo g s hg).2⟩,h.dfr,h.size,(h.env.shift hd).add (by rw[hv];exact .own m2),fun j hj=> ?_,fun j x hx=> ?_⟩
 ·rcases bq hj with⟨rfl,rfl⟩|⟨rfl,rfl⟩|⟨h9,hu⟩|⟨bb,h9,bh⟩
  ·refine⟨.fam T Ts n (some (i,L)) F,by rw[J6 (by simpa using pt)];simp[pt,L],ps,qs.set i [],rfl,⟨cf.pl,by simp[cf.ql],fun i1 j1 i2 j2 us1 us2 u1 u2 c g1 g2 g3 g4 g5 g6=> ?_,fun i1 cw=> ?_⟩,fun i' c' e=>by cases e;exact⟨_,vk,m2⟩⟩
   ·exact cf.nd i1 j1 i2 j2 us1 us2 u1 u2 c (c07 g1 g2).2 g2 g3 (c07 g4 g5).2 g5 g6
   ·obtain⟨b1,us1,g1,g2,g3⟩:=cf.mem i1 cw
    by_cases e:i=i1
    ·subst e
     exact⟨b1,[],g1,by rw[K9 bf],.inl ⟨rfl,rfl⟩⟩
    ·refine⟨b1,us1,g1,by rw[Jb e];exact g2,.inr ⟨fun e'=>e (Jp e'),?_⟩⟩
     rcases g3 with⟨g3,_⟩|⟨_,us3,e3,g4⟩
     ·cases g3
     ·exact⟨us3,e3,g4.keep ⟨J2 _,fun _ _ _=>rfl,fun c _=>bp c⟩ (fun _ _ _ _=>rfl)⟩
  ·refine⟨_,by rw[Jr (by simp[L]),Lj,Lv];rfl,?_⟩
   obtain⟨b2,vs,e2,hh,hl,bu,hD⟩:=cy.cells
   cases e2
   refine⟨b,vs,rfl,hh,E9,bu,fun j s v hs hv=> ?_⟩
   simp only[Id]at hs
   obtain⟨s0,bv,rfl⟩:=hs
   have N1:=hD j s0 v bv hv
   have su:=J4.1 cy.memc s0 (J0 bv)
   refine b4w bp (fun kk jj x ry hx=> ?_) N1
   simp only[Jh]at ry
   subst ry
   rw[m3 _ Dt,show L+1+kk-L-1=kk from Dt]
   exact hx
  ·obtain⟨t,r,g1,g2,g3⟩:=h8 _ _ hu
   refine⟨.row t.1 t.2 r.1 r.2 none,?_,g3.shift (fun s v ra hs=>b1w bp hs ra)⟩
   rw[Jr (by simp[L]at h9⊢;omega),Lj,show j-st.own.length=(j-L-1)+1 by simp only[L]at h9⊢;omega,Ks]
   have mw:j-L-1<(b6a Ts rows).length:=by rw[b6b _ _ b8];exact(Iz.1 g1).1
   obtain⟨t',r',k1,k2,k3⟩:=c58 Ts rows _ _ (Iv mw)
   rw[g1]at k1
   rw[g2]at k2
   cases k1;cases k2
   rw[Iv mw,k3]
  ·obtain⟨bl,e,b6⟩:=h.own.blk j x bh
   refine⟨bl,?_,b6.shift bp hμ hf⟩
   rw[J6 (by simpa[L]using h9),Jb (Ne.symm bb)]
   exact e
 ·rcases hold hj hx with⟨i1,j1,us1,u1,g1,g2,g3,g4⟩|⟨g1,g2,g3⟩<;>rcases hold bh d4 with⟨i2,j2,us2,u2,k1,k2,k3,k4⟩|⟨k1,k2,k3⟩
  ·obtain⟨rfl,rfl⟩:=cf.nd i1 j1 i2 j2 us1 us2 u1 u2 c g1 g2 g3 k1 k2 k3
   rcases g4 with⟨rfl,g4⟩|⟨rfl,g4⟩<;>rcases k4 with⟨rfl,k4⟩|⟨rfl,k4⟩
   ·rfl
   ·exact absurd k4 g4
   ·exact absurd g4 k4
   ·rfl
  ·exact absurd (h.own.inj j' k x' _ c k3 hμk d4 (ce g1 g2 g3)) k1
  ·exact absurd (h.own.inj j k x _ c g3 hμk hx (ce k1 k2 k3)) g1
  ·exact h.own.inj j j' x x' c g3 k3 hx d4
 ·rcases hold hj hx with⟨i1,j1,us1,u1,g1,g2,g3,_⟩|⟨_,_,g3⟩
  ·exact h.own.rng k _ c hμk (ce g1 g2 g3)
  ·exact h.own.rng j x c g3 hx
 ·simp only[Jj,Lj,K3,b6b _ _ b8]at hj
  rw[m3 j (by simp only[L];omega)]
  exact L0 (by rw[cy.len];simp only[L];omega)
 ·have bb:j≠k:=fun e=>Gu
  have:=h.anc j x hx
  have h9:j<L:=by
   rcases M5 j L with h'|h'
   ·exact h'
   ·rw[h.fresh j h']at this;cases this
  rw[m4 j bb h9];exact this
end
def selOK(E:Env)(own:List Blk)(ks:List Nat):Bool:=c1v ks&&ks.all (fun k=>decide (k<own.length))&&decide (E.na≤ks.length)&&(List.range E.na).all fun j=>ks.getD j 0==j
def gSel(E:Env)(ks:List Nat)(st:St):Option (Prop×St):=
 if selOK E st.own ks=true then some (True,⟨st.ρ.map fun e=>{e with sv:=e.sv.ren2 fun k=>idx k ks},ks.map fun k=>(st.own.getD k .dead).ren fun k=>idx k ks⟩)else none
section
variable {E : Env} {B0 : Nat} {X A : Nat → Prop} {w0 : World} {nt : Nat} {st : St} {a : Act} {w : World} {μ : Mu}
theorem f30(h:SD E B0 X A w0 nt st a w μ){ks:List Nat}{pre:Prop}{st':St}(he:gSel E ks st=some (pre,st')):∃μ',SD E B0 X A w0 nt st' a w μ':=by
 unfold gSel at he
 split at he
 rotate_left
 ·cases he
 rename_i b6
 simp only[Ib]at he
 obtain⟨_,rfl⟩:=he
 simp only[selOK,Ih]at b6
 obtain⟨⟨⟨fk,bt⟩,pj⟩,cd⟩:=b6
 have hn:=b8b fk
 let μ':Mu:=fun j=>(ks[j]?).bind μ
 have bq:∀{j x},μ' j=some x→∃k,ks[j]?=some k∧μ k=some x:=fun hj=>by simpa[μ',J3]using hj
 have hg:∀k j x,idx k ks=some j→μ k=some x→μ' j=some x:=fun k j x hj hk=>by
  have:=b42 hj
  simp[μ',this,hk]
 have bp:∀b,held A μ' b→held A μ b:=by
  rintro b (hb|⟨j,x,hj,hx⟩)
  ·exact .inl hb
  ·obtain⟨k,_,hk⟩:=bq hj
   exact .inr ⟨k,x,hk,hx⟩
 refine⟨μ',⟨fun j x hj=> ?_,fun j j' x x' b hj bh hx d4=> ?_,fun j x b hj hx=> ?_,h.own.bnd⟩,h.fr,h.base,fun g s hs=>⟨(h.glo g s hs).1,b1w bp (h.glo g s hs).2 (h.glo g s hs).1⟩,h.dfr,h.size,fun t e he=> ?_,fun j hj=> ?_,fun j x hx=> ?_⟩
 ·obtain⟨k,hk,hx⟩:=bq hj
  obtain⟨bl,e,hb⟩:=h.own.blk k x hx
  refine⟨bl.ren fun k=>idx k ks,?_,hb.ren bp hg⟩
  simp[hk,e]
 ·obtain⟨k,hk,mq⟩:=bq hj
  obtain⟨k',cm,tg⟩:=bq bh
  have:=h.own.inj k k' x x' b mq tg hx d4
  subst this
  have e1:=b8f hn hk
  have e2:=b8f hn cm
  rw[e1]at e2
  cases e2
  rfl
 ·obtain⟨k,_,hk⟩:=bq hj
  exact h.own.rng k x b hk hx
 ·rw[b9d (f:=fun(e:Entry)=>{e with sv:=e.sv.ren2 fun k=>idx k ks}) (fun _=>rfl),J1]at he
  obtain⟨e0,jv,rfl⟩:=he
  have:=h.env t e0 jv
  unfold b0d at this⊢
  simp only
  split at this
  ·exact b95 bp hg this
  ·exact⟨fun q=>b95 bp hg (this.1 q),this.2⟩
 ·simp only[Js]at hj
  have:ks[j]?=none:=L0 hj
  simp[μ',this]
 ·have h9:=Env.ak_lt (Env.an_ak hx)
  have hj:=J4.1 cd j (by simpa using h9)
  have nk:ks[j]?=some j:=by
   rw[Iv Dt]
   simp only[Lp,Im,Iv (show j<ks.length from Dt)]at hj
   rw[hj]
  simp only[μ',nk,Lq]
  exact h.anc j x hx
end
def d79(m:Nat)(T:TypeId)(Ts:List (TypeId×Nat))(st:St):Option (Prop×St):=match st.own[m]? with
 |some (.map K false has _)=>some (∀q,has q=false,⟨st.ρ,st.own.set m (.pmap K st.own.length (fun _=>false) (fun _=>0))++[.fam T Ts 0 none (fun _=>⟨[],[]⟩)]⟩)
 |_=>none
section
variable {E : Env} {B0 : Nat} {X A : Nat → Prop} {w0 : World} {nt : Nat} {st : St} {a : Act} {w : World} {μ : Mu}
theorem d1j(h:SD E B0 X A w0 nt st a w μ){m:Nat}{T:TypeId}{Ts:List (TypeId×Nat)}{pre:Prop}{st':St}(he:d79 m T Ts st=some (pre,st'))(hp:pre):∃μ',SD E B0 X A w0 nt st' a w μ':=by
 unfold d79 at he
 split at he
 rotate_left
 ·cases he
 rename_i K has val hm
 simp only[Ib]at he
 obtain⟨rfl,rfl⟩:=he
 have hmlt:m<st.own.length:=(Iz.1 hm).1
 have bg:=h.fresh st.own.length (J2 _)
 have dp:μ.set st.own.length (b4h [] []) st.own.length=some (b4h [] []):=Ec
 have hold:∀{j x},μ j=some x→μ.set st.own.length (b4h [] []) j=some x:=fun {j x} hj=>by
  unfold Mu.set
  split
  ·rename_i e;rw[e,bg]at hj;cases hj
  ·exact hj
 have bq:∀{j x},μ.set st.own.length (b4h [] []) j=some x→(j=st.own.length∧x=b4h [] [])∨(j≠st.own.length∧μ j=some x):=by
  intro j x hj
  unfold Mu.set at hj
  split at hj
  ·exact .inl ⟨‹_›,(Jp hj).symm⟩
  ·exact .inr ⟨‹_›,hj⟩
 have nohas:∀b,¬Has (b4h [] []) b:=fun b hb=>by
  obtain⟨us,u,h1,_⟩:=b52.1 hb
  simp at h1
 have bp:∀b,held A (μ.set st.own.length (b4h [] [])) b→held A μ b:=by
  rintro b (hb|⟨j,x,hj,hx⟩)
  ·exact .inl hb
  ·rcases bq hj with⟨_,rfl⟩|⟨_,bh⟩
   ·exact absurd hx (nohas b)
   ·exact .inr ⟨j,x,bh,hx⟩
 have hd:∀s v,D w (held A μ) μ s v→D w (held A (μ.set st.own.length (b4h [] []))) (μ.set st.own.length (b4h [] [])) s v:=fun s v h=>h.shift bp (fun j x hj _=>hold hj) (fun j ps qs hj=>⟨ps,qs,hold hj,fun _ _ h=>h⟩)
 refine⟨_,⟨fun j x hj=> ?_,fun j j' x x' b hj bh hx d4=> ?_,fun j x b hj hx=> ?_,h.own.bnd⟩,h.fr,h.base,fun g s hg=>⟨(h.glo g s hg).1,hd _ _ (h.glo g s hg).2⟩,h.dfr,h.size,h.env.shift hd,fun j hj=> ?_,fun j x hx=>hold (h.anc j x hx)⟩
 ·rcases bq hj with⟨rfl,rfl⟩|⟨bb,bh⟩
  ·refine⟨.fam T Ts 0 none (fun _=>⟨[],[]⟩),Dv,[],[],rfl,⟨rfl,rfl,fun i j i' j' us us' u u' b h1=>by simp at h1,fun i hi=>absurd hi (Je _)⟩,fun i c e=>E4⟩
  ·obtain⟨bl,e,hb⟩:=h.own.blk j x bh
   have re:j<st.own.length:=(Iz.1 e).1
   by_cases ej:j=m
   ·subst ej
    rw[hm]at e
    cases e
    obtain⟨r,g,rfl,ph,_,_⟩:=hb
    have:has=fun _=>false:=Mj hp
    subst this
    exact⟨.pmap K st.own.length (fun _=>false) (fun _=>0),by rw[J6 (by simpa using re)];simp[re],⟨_,_,dp⟩,r,g,rfl,ph,fun q hq=>by cases hq⟩
   ·refine⟨bl,by rw[J6 (by simpa using re),Jb (Ne.symm ej)];exact e,hb.shift bp (fun j x hj _=>hold hj) (fun j ps qs hj=>⟨ps,qs,hold hj,fun _ _ h=>h⟩)⟩
 ·rcases bq hj with⟨rfl,rfl⟩|⟨_,g1⟩<;>rcases bq bh with⟨rfl,rfl⟩|⟨_,g2⟩
  ·rfl
  ·exact absurd hx (nohas b)
  ·exact absurd d4 (nohas b)
  ·exact h.own.inj j j' x x' b g1 g2 hx d4
 ·rcases bq hj with⟨rfl,rfl⟩|⟨_,g1⟩
  ·exact absurd hx (nohas b)
  ·exact h.own.rng j x b g1 hx
 ·simp only[Ig,Lj]at hj
  unfold Mu.set
  rw[Iy Dt]
  exact C7
end
def c20(own:List Blk):Nat→List (TypeId×Nat)→Option (List (Nat×(Nat→List SV)))
 |_,[]=>some []
 |c,t::ts=>match own[c]? with
  |some (.row T sz n f _)=>if T=t.1∧sz=t.2 then(c20 own (c+1) ts).map fun r=>(n,f)::r else none
  |_=>none
theorem c3h{own:List Blk}:∀(ts:List (TypeId×Nat)) (c:Nat) (rs:List (Nat×(Nat→List SV))),c20 own c ts=some rs→rs.length=ts.length∧∀(j:Nat) (t:TypeId×Nat),ts[j]?=some t→∃r cp,rs[j]?=some r∧own[c+j]?=some (.row t.1 t.2 r.1 r.2 cp)
 | [],c,rs,h=>by simp[c20]at h;subst h;exact⟨rfl,fun j t h=>E7⟩
 |t::ts,c,rs,h=>by
  simp only[c20]at h
  split at h
  rotate_left
  ·cases h
  rename_i T sz n f cp hc
  split at h
  rotate_left
  ·cases h
  rename_i e
  obtain⟨rfl,rfl⟩:=e
  simp only[J1]at h
  obtain⟨r,hr,rfl⟩:=h
  obtain⟨h1,h2⟩:=c3h ts (c+1) r hr
  refine⟨Eh,fun j t' ht=> ?_⟩
  match j with
  |0=>simp at ht;subst ht;exact⟨(n,f),cp,rfl,hc⟩
  |j+1=>
   obtain⟨r',cp',e1,e2⟩:=h2 j t' Ew
   exact⟨r',cp',by simpa using e1,by rw[show c+(j+1)=c+1+j from Dt];exact e2⟩
def c1a(j:Nat):SV→Bool
 |.osl q=>q==j
 |_=>false
def unG(c m q:Nat):Option Nat:=if inR c m q&&decide (c<q)then some (q-c-1)else none
def d1h(E:Env)(k:Nat)(st:St):Option (Prop×St):=match st.own[k]? with
 |some (.fam T Ts n (some (i,c)) F)=>match st.own[c]? with
  |some (.cells Tc cs)=>(c20 st.own (c+1) Ts).bind fun rows=>
   if Tc=T∧(cs.map (SV.ren0 (unG c Ts.length))).all SV.memc=true∧((List.range Ts.length).all fun j=>(cs.map (SV.ren0 (unG c Ts.length))).any (c1a j))=true∧inR c Ts.length k=false∧((List.range (Ts.length+1)).all fun d=> !E.ak (c+d))=true∧E.ak k=false then
    some (True,⟨st.ρ.map fun e=>{e with sv:=e.sv.uf2 c Ts.length},
     g43 (fun q b=>if q=k then .fam T Ts n none (fun j=>if j=i then⟨cs.map (SV.ren0 (unG c Ts.length)),rows⟩else F j)else if inR c Ts.length q=true then .dead else b.uf c Ts.length) 0 st.own⟩)
   else none
  |_=>none
 |_=>none
section
variable {E : Env} {B0 : Nat} {X A : Nat → Prop} {w0 : World} {nt : Nat} {st : St} {a : Act} {w : World} {μ : Mu}
theorem c8b(h:SD E B0 X A w0 nt st a w μ){k:Nat}{pre:Prop}{st':St}(he:d1h E k st=some (pre,st')):∃μ',SD E B0 X A w0 nt st' a w μ':=by
 unfold d1h at he
 split at he
 rotate_left
 ·cases he
 rename_i T Ts n i c F hk
 split at he
 rotate_left
 ·cases he
 rename_i Tc cs hc
 simp only[J3]at he
 obtain⟨rows,hrows,he⟩:=he
 split at he
 rotate_left
 ·cases he
 rename_i da
 obtain⟨rfl,su,bt,hkr,gq,n8⟩:=da
 simp only[Ib]at he
 obtain⟨_,rfl⟩:=he
 obtain⟨r1,r2⟩:=c3h Ts (c+1) rows hrows
 let m:=Ts.length
 have ancno:∀y,inR c m y=true→E.ak y=false:=fun y hy=>by
  simp only[inR,Ih]at hy
  have:=J4.1 gq (y-c) E5
  rw[show c+(y-c)=y from Dt]at this
  simpa using this
 have klen:∀y,st.own.length≤y→μ y=none:=h.fresh
 cases hμk:μ k with
 |none=>
  let μ':Mu:=fun y=>if inR c m y=true then none else μ y
  have bq:∀{y x},μ' y=some x→inR c m y=false∧μ y=some x:=by
   intro y x hy
   simp only[μ']at hy
   split at hy
   ·cases hy
   ·exact⟨by simpa using ‹¬ inR c m y=true›,hy⟩
  have c6:∀{y},inR c m y=false→μ' y=μ y:=fun hy=>by simp[μ',hy]
  have bp:∀b,held A μ' b→held A μ b:=by
   rintro b (hb|⟨y,x,hy,hx⟩)
   ·exact .inl hb
   ·exact .inr ⟨y,x,(bq hy).2,hx⟩
  have f8:Drop c m (held A μ) (held A μ') μ μ':=⟨bp,fun y x hy hx _=>by rw[c6 hy];exact hx,fun y ps qs hy hx=>⟨ps,qs,by rw[c6 hy];exact hx,fun _ _ h=>h⟩⟩
  refine⟨μ',⟨fun y x hy=> ?_,fun y y' x x' b hy gm=>h.own.inj y y' x x' b (bq hy).2 (bq gm).2,fun y x b hy=>h.own.rng y x b (bq hy).2,h.own.bnd⟩,h.fr,h.base,fun g s hg=>⟨(h.glo g s hg).1,b1w bp (h.glo g s hg).2 (h.glo g s hg).1⟩,h.dfr,h.size,h.env.drop f8,fun y hy=> ?_,fun y x hx=> ?_⟩
  ·obtain⟨ru,P1⟩:=bq hy
   obtain⟨bl,e,hb⟩:=h.own.blk y x P1
   have wv:y≠k:=fun e=>by subst e;rw[hμk]at P1;cases P1
   refine⟨bl.uf c m,?_,hb.drop f8⟩
   rw[c1j,e]
   simp only[Kf,K7]
   rw[Iy wv,Iy (by rw[show inR c Ts.length y=inR c m y from rfl,ru];simp)]
  ·rw[b2u]at hy
   simp only[μ']
   split
   ·rfl
   ·exact klen y hy
  ·have:inR c m y=false:=by
    cases hh:inR c m y with
    |false=>rfl
    |true=>have:=ancno y hh;rw[Env.an_ak hx]at this;cases this
   rw[c6 this]
   exact h.anc y x hx
 |some xk=>
 obtain⟨bl,e,b6⟩:=h.own.blk _ _ hμk
 rw[hk]at e
 cases e
 obtain⟨ps,qs,rfl,cf,hhole⟩:=b6
 obtain⟨p,vk,hμc⟩:=hhole i c rfl
 simp only[K7]at cf
 have hi:i<n:=by rw[←cf.pl];exact(Iz.1 vk).1
 have bf:i<qs.length:=by rw[cf.ql];exact hi
 obtain⟨bl,e,hokc⟩:=h.own.blk _ _ hμc
 rw[hc]at e
 cases e
 obtain⟨b,vs,rfl,hh,hl,bu,hd⟩:=hokc
 have hslice:∀j,j<m→∃u,μ (c+1+j)=some u∧(∃a n m,u=.slice a n m):=by
  intro j hj
  have h1:=J4.1 bt j (by simpa[m]using hj)
  simp only[Jc,Ja]at h1
  obtain⟨s,⟨s0,bv,rfl⟩,hs⟩:=h1
  obtain⟨ii,Qb⟩:=Kj.1 bv
  have h9:ii<vs.length:=by rw[hl];exact(Iz.1 Qb).1
  have hD:=hd ii s0 _ Qb (Iv h9)
  cases s0 with
  |osl q=>
   simp only[SV.ren0,SV.ren00]at hs
   split at hs
   ·rename_i j' bh
    simp only[c1a,Lp]at hs
    subst hs
    simp only[unG]at bh
    split at bh
    ·rename_i hq
     simp only[Ih]at hq
     cases bh
     have N1:=hD
     generalize vs[ii]=vv at N1
     cases N1 with
     |osl ni=>exact⟨_,by rw[show c+1+(q-c-1)=q from Dt];exact ni,_,_,_,rfl⟩
    ·cases bh
   ·simp[c1a]at hs
  |own q o=>simp only[SV.ren0,SV.ren00]at hs;split at hs<;>simp[c1a]at hs
  |omp q=>simp only[SV.ren0,SV.ren00]at hs;split at hs<;>simp[c1a]at hs
  |oel q sz x o=>simp only[SV.ren0,SV.ren00]at hs;split at hs<;>simp[c1a]at hs
  |fp ok q x o=>simp only[SV.ren0,SV.ren00]at hs;split at hs<;>simp[c1a]at hs
  |clo f cs'=>simp[SV.ren0,c1a]at hs
  |_=>simp[SV.ren0,SV.ren00,c1a]at hs
 let us':List Value:=(List.range m).map fun j=>(μ (c+1+j)).getD undef
 have jd:∀j u,us'[j]?=some u↔j<m∧μ (c+1+j)=some u:=by
  intro j u
  simp only[us',Jv]
  constructor
  ·intro hj
   simp only[J1]at hj
   obtain⟨y,hy,rfl⟩:=hj
   obtain⟨ru,rfl⟩:=Iz.1 hy
   simp only[List.length_range]at ru
   simp only[List.getElem_range]
   obtain⟨u,hu,_⟩:=hslice j ru
   exact⟨ru,by rw[hu];rfl⟩
  ·rintro⟨h1,h2⟩
   rw[Iv (by simpa using h1)]
   simp[h2]
 let new:List Value:=.pointer (some ⟨b,0,none⟩)::us'
 let μ':Mu:=fun y=>if y=k then some (b4h ps (qs.set i new))else if inR c m y=true then none else μ y
 have m1:μ' k=some (b4h ps (qs.set i new)):=by simp[μ']
 have m3:∀y,y≠k→inR c m y=false→μ' y=μ y:=fun y h1 h2=>by simp[μ',h1,h2]
 have bq:∀{y x},μ' y=some x→(y=k∧x=b4h ps (qs.set i new))∨(y≠k∧inR c m y=false∧μ y=some x):=by
  intro y x hy
  by_cases e1:y=k
  ·exact D9
  ·cases e2:inR c m y with
   |true=>simp[μ',e1,e2]at hy
   |false=>rw[m3 y e1 e2]at hy;exact .inr ⟨e1,rfl,hy⟩
 have dp:∀(j:Nat) (u:Value) (d:Nat),new[j]?=some u→b2t u=some d→j≤m∧∃x,μ (c+j)=some x∧Has x d:=by
  intro j u d h1 h2
  match j with
  |0=>
   simp only[new,List.getElem?_cons_zero,Jh]at h1
   subst h1
   exact⟨J5 _,_,hμc,.inl h2⟩
  |j+1=>
   simp only[new,Ks]at h1
   obtain⟨h3,h4⟩:=(jd j u).1 h1
   exact⟨h3,u,by rw[show c+(j+1)=c+1+j from Dt];exact h4,.inl h2⟩
 have tk:∀{j},j≤m→inR c m (c+j)=true:=fun hj=>by simp[inR];omega
 have cz:∀{i' us},(qs.set i new)[i']?=some us→(i'=i∧us=new)∨(i'≠i∧qs[i']?=some us):=by
  intro i' us hg
  by_cases e:i=i'
  ·subst e
   rw[K9 bf]at hg
   exact .inl ⟨rfl,(Jp hg).symm⟩
  ·rw[Jb e]at hg
   exact .inr ⟨Ne.symm e,hg⟩
 have ce:∀{i' j' us2 u d},qs[i']?=some us2→us2[j']?=some u→b2t u=some d→Has (b4h ps qs) d:=fun g1 g2 g3=>b52.2 ⟨_,_,J0 g1,J0 g2,g3⟩
 have hold:∀{y x d},μ' y=some x→Has x d→(y=k∧Has (b4h ps qs) d)∨(y=k∧∃z x',inR c m z=true∧μ z=some x'∧Has x' d)∨(y≠k∧inR c m y=false∧μ y=some x):=by
  intro y x d hy hx
  rcases bq hy with⟨rfl,rfl⟩|h3
  ·obtain⟨us2,u,g1,g2,g3⟩:=b52.1 hx
   obtain⟨i',b7⟩:=Kj.1 g1
   obtain⟨j',bh⟩:=Kj.1 g2
   rcases cz b7 with⟨rfl,rfl⟩|⟨_,g4⟩
   ·obtain⟨g5,x',g6,g7⟩:=dp j' u d bh g3
    exact .inr (.inl ⟨rfl,_,x',tk g5,g6,g7⟩)
   ·exact .inl ⟨rfl,ce g4 bh g3⟩
  ·exact .inr (.inr h3)
 have bp:∀d,held A μ' d→held A μ d:=by
  rintro d (fh|⟨y,x,hy,hx⟩)
  ·exact .inl fh
  ·rcases hold hy hx with⟨_,h1⟩|⟨_,z,x',_,h1,h2⟩|⟨_,_,h3⟩
   ·exact .inr ⟨k,_,hμk,h1⟩
   ·exact .inr ⟨z,x',h1,h2⟩
   ·exact .inr ⟨y,x,h3,hx⟩
 have f8:Drop c m (held A μ) (held A μ') μ μ':=by
  refine⟨bp,fun y x hy hx Pp=> ?_,fun y ps2 qs2 hy hx=> ?_⟩
  ·have e2:y≠k:=fun e=>Hr
   rw[m3 y e2 hy];exact hx
  ·by_cases e2:y=k
   ·subst e2
    rw[hμk]at hx
    obtain⟨rfl,rfl⟩:=b98 (Jp hx)
    exact⟨_,_,m1,fun _ _ h=>h⟩
   ·exact⟨ps2,qs2,(m3 y e2 hy).trans hx,fun _ _ h=>h⟩
 have z5:∀z,inR c m z=true→z≠k:=fun z hz e=>by
  subst e
  rw[show inR c m z=inR c Ts.length z from rfl,hkr]at hz
  cases hz
 refine⟨μ',⟨fun y x hy=> ?_,fun y y' x x' d hy gm hx d4=> ?_,fun y x d hy hx=> ?_,h.own.bnd⟩,h.fr,h.base,fun g s hg=>⟨(h.glo g s hg).1,b1w bp (h.glo g s hg).2 (h.glo g s hg).1⟩,h.dfr,h.size,h.env.drop f8,fun y hy=> ?_,fun y x hx=> ?_⟩
 ·rcases bq hy with⟨rfl,rfl⟩|⟨wv,hyr,gm⟩
  ·refine⟨.fam Tc Ts n none (fun j=>if j=i then⟨cs.map (SV.ren0 (unG c Ts.length)),rows⟩else F j),by rw[c1j,hk];simp,ps,qs.set i new,rfl,⟨cf.pl,by simp[cf.ql],fun i1 j1 i2 j2 us1 us2 u1 u2 d g1 g2 g3 g4 g5 g6=> ?_,fun i1 cw=> ?_⟩,fun i c e=>E4⟩
   ·rcases cz g1 with⟨rfl,rfl⟩|⟨e1,k1⟩<;>rcases cz g4 with⟨rfl,rfl⟩|⟨e2,k4⟩
    ·obtain⟨a1,x1,a2,a3⟩:=dp j1 u1 d g2 g3
     obtain⟨b1,x2,b2,b3⟩:=dp j2 u2 d g5 g6
     have:=h.own.inj _ _ x1 x2 d a2 b2 a3 b3
     exact⟨rfl,Dt⟩
    ·obtain⟨a1,x1,a2,a3⟩:=dp j1 u1 d g2 g3
     exact absurd (h.own.inj _ _ x1 _ d a2 hμk a3 (ce k4 g5 g6)) (z5 _ (tk a1))
    ·obtain⟨a1,x1,a2,a3⟩:=dp j2 u2 d g5 g6
     exact absurd (h.own.inj _ _ x1 _ d a2 hμk a3 (ce k1 g2 g3)) (z5 _ (tk a1))
    ·exact cf.nd i1 j1 i2 j2 us1 us2 u1 u2 d k1 g2 g3 k4 g5 g6
   ·obtain⟨b1,us1,g1,g2,g3⟩:=cf.mem i1 cw
    by_cases e:i1=i
    ·subst e
     rw[vk]at g1
     cases g1
     refine⟨b,new,vk,by rw[K9 bf],.inr ⟨Dv,us',rfl,?_⟩⟩
     rw[Iw rfl]
     refine⟨⟨b,vs,rfl,hh,E9,bu,fun j s v hs hv=> ?_⟩,su,by simp[us',m],r1,fun j t r u h1 h2 h3=> ?_⟩
     ·simp only[Id]at hs
      obtain⟨s0,bv,rfl⟩:=hs
      refine b4w bp (fun kk jj x ry hx=> ?_) (hd j s0 v bv hv)
      simp only[unG]at ry
      split at ry
      ·rename_i hq
       simp only[inR,Ih]at hq
       cases ry
       exact(jd _ _).2 ⟨by simp only[m];omega,by rw[show c+1+(kk-c-1)=kk from Dt];exact hx⟩
      ·cases ry
     ·obtain⟨h4,h5⟩:=(jd j u).1 h3
      obtain⟨r',cp,h6,h7⟩:=r2 j t h1
      rw[h2]at h6
      cases h6
      obtain⟨bl,e,hb⟩:=h.own.blk _ _ h5
      rw[show c+1+j=c+1+j from rfl,h7]at e
      cases e
      have:=b9f.shift (μ':=loc us') (fun s v hp hs=>b1w bp hs hp) hb
      obtain⟨a1,a2,a3,a4,a5,a6,a7,a8⟩:=this
      exact⟨a1,a2,a3,a4,a5,.inl rfl,a7,a8⟩
    ·refine⟨b1,us1,g1,by rw[Jb (Ne.symm e)];exact g2,.inr ⟨Dv,?_⟩⟩
     rw[Iy e]
     rcases g3 with⟨g3,_⟩|⟨_,us3,e3,g4⟩
     ·exact absurd (Jp g3).symm e
     ·exact⟨us3,e3,g4.keep ⟨J2 _,fun _ _ _=>rfl,fun d _=>bp d⟩ (fun _ _ _ _=>rfl)⟩
  ·obtain⟨bl,e,hb⟩:=h.own.blk y x gm
   refine⟨bl.uf c m,?_,hb.drop f8⟩
   rw[c1j,e]
   simp only[Kf,K7]
   rw[Iy wv,Iy (by rw[show inR c Ts.length y=inR c m y from rfl,hyr];simp)]
 ·rcases hold hy hx with⟨e1,g1⟩|⟨e1,z,xz,g1,g2,g3⟩|⟨e1,e1',g1⟩<;>rcases hold gm d4 with⟨e2,k1⟩|⟨e2,z',xz',k1,k2,k3⟩|⟨e2,e2',k1⟩
  ·omega
  ·omega
  ·exact absurd (h.own.inj y' k _ _ d k1 hμk d4 g1) e2
  ·omega
  ·omega
  ·have:=h.own.inj y' z _ _ d k1 g2 d4 g3
   subst this
   rw[g1]at e2';cases e2'
  ·exact absurd (h.own.inj y k _ _ d g1 hμk hx k1) e1
  ·have:=h.own.inj y z' _ _ d g1 k2 hx k3
   subst this
   rw[k1]at e1';cases e1'
  ·exact h.own.inj y y' x x' d g1 k1 hx d4
 ·rcases hold hy hx with⟨e1,g1⟩|⟨e1,z,xz,g1,g2,g3⟩|⟨e1,e1',g1⟩
  ·exact h.own.rng k _ d hμk g1
  ·exact h.own.rng z _ d g2 g3
  ·exact h.own.rng y x d g1 hx
 ·rw[b2u]at hy
  have pt:k<st.own.length:=(Iz.1 hk).1
  simp only[μ']
  rw[Iy Dt]
  split
  ·rfl
  ·exact klen y hy
 ·have e1:y≠k:=fun e=>Gu
  have e2:inR c m y=false:=by
   cases hh:inR c m y with
   |false=>rfl
   |true=>have:=ancno y hh;rw[Env.an_ak hx]at this;cases this
  rw[m3 y e1 e2];exact h.anc y x hx
end
def j0d(k:Nat)(st:St):Option (Prop×St):=match st.own[k]? with
 |some (.rowh T sz n f c i u)=>if u.all SV.pure then some (True,⟨st.ρ,st.own.set k (.row T sz n (fun q=>b9m (decide (q=i)) u (f q)) c)⟩)else none
 |_=>none
section
variable {E : Env} {B0 : Nat} {X A : Nat → Prop} {w0 : World} {nt : Nat} {st : St} {a : Act} {w : World} {μ : Mu}
theorem d6c(h:SD E B0 X A w0 nt st a w μ){k:Nat}{pre:Prop}{st':St}(he:j0d k st=some (pre,st')):SD E B0 X A w0 nt st' a w μ:=by
 unfold j0d at he
 split at he
 rotate_left
 ·cases he
 rename_i T sz n f c i u hk
 split at he
 rotate_left
 ·cases he
 rename_i ra
 simp only[Ib]at he
 obtain⟨_,rfl⟩:=he
 have h9:k<st.own.length:=(Iz.1 hk).1
 refine⟨⟨fun j x hj=> ?_,h.own.inj,h.own.rng,h.own.bnd⟩,h.fr,h.base,h.glo,h.dfr,h.size,h.env,fun j hj=>h.fresh j Ek,h.anc⟩
 obtain⟨bl,e,b6⟩:=h.own.blk j x hj
 by_cases ej:j=k
 ·subst ej
  rw[hk]at e
  cases e
  refine⟨_,by rw[K9 h9],?_⟩
  obtain⟨b,o,m,vs,rfl,hn,hm,hc,hi,hu,hl,hh,ho,h1,hd,sa⟩:=b6
  refine b19.row_weak (f:=fun q=>if q=i then u else f q) (fun q=>by have:=c10 (decide (q=i)) u (f q);simpa only[Jz]using this) ⟨_,m,rfl,hn,hm,hc,fun q hq=> ?_,.inr ⟨b,o,vs,Dt,rfl,hh,ho,h1,fun q j s v hq hs hv=> ?_⟩⟩
  ·by_cases e:q=i
   ·subst e;simp only[K5];exact⟨hu,ra⟩
   ·simp only[Iy e];exact hl q hq e
  ·by_cases e:q=i
   ·subst e;simp only[K5]at hs;exact sa j s v hs hv
   ·simp only[Iy e]at hs;exact hd q j s v hq e hs hv
 ·exact⟨bl,by rw[Jb (Ne.symm ej)];exact e,b6⟩
end
def rdy(ops:Array Oper)(done:List Nat):List Nat:=
 (List.range ops.size).filter fun i=> !done.contains i&&((ops[i]?).map (fun o=>o.after.toList.all fun e=> !Region.binds .any e||done.contains e.on)).getD false
def andL:List Nat→(Nat→Prop)→Prop
 | [],_=>True
 |i::r,f=>f i∧andL r f
theorem f1v{f:Nat→Prop}:∀{l:List Nat},andL l f→∀i∈l,f i
 | [],_,i,hi=>by simp at hi
 |x::r,h,i,hi=>by
  rcases J8.1 hi with rfl|hi
  ·exact h.1
  ·exact f1v h.2 i hi
def anyK(E:Env)(nt:Nat)(ops:Array Oper)(K:St→Prop):Nat→List Nat→St→Prop
 |0,done,st=>match rdy ops done with
  | []=>K st
  |_::_=>False
 |f+1,done,st=>f6q (rdy ops done) fun l=>match l with
  | []=>K st
  |i::r=>andL (i::r) fun i=>match ops[i]? with
   |some o=>match g0s E nt ops st o with
    |some (p,st')=>Ask p∧st'.forceO o (anyK E nt ops K f (i::done))
    |none=>False
   |none=>False
structure Rel (ops:Array Oper) (listed:Array Bool) (done:List Nat):Prop where
 size:listed.size=ops.size
 get:∀i,i<ops.size→listed[i]?=some (done.contains i)
 lt:∀i∈done,i<ops.size
theorem g9v{ops:Array Oper}{listed:Array Bool}{done:List Nat}(h:Rel ops listed done):Region.ready .any ops listed=rdy ops done:=by
 unfold Region.ready rdy
 apply List.filter_congr
 intro i hi
 have b7:i<ops.size:=Ej
 have g:∀j d,listed.getD j d=if j<ops.size then done.contains j else d:=by
  intro j d
  split
  ·rename_i hj
   rw[Array.getD_eq_getD_getElem?,h.get j hj];rfl
  ·rename_i hj
   rw[Array.getD_eq_getD_getElem?,Array.getElem?_eq_none (by rw[h.size];omega)];rfl
 rw[g,Iw b7]
 congr 1
 congr 1
 have gd:∀j,listed.getD j false=done.contains j:=by
  intro j
  rw[g]
  split
  ·rfl
  ·rename_i hj
   symm
   rw[←Bool.not_eq_true,List.contains_iff_mem]
   exact fun hm=>hj (h.lt j hm)
 cases ops[i]? with
 |none=>rfl
 |some o=>simp only[K7,gd,Array.all_toList]
theorem Rel.next{ops:Array Oper}{listed:Array Bool}{done:List Nat}(h:Rel ops listed done){i:Nat}(hi:i<ops.size):Rel ops (listed.setIfInBounds i true) (i::done):=by
 refine⟨by simp[h.size],fun j hj=> ?_,fun j hj=> ?_⟩
 ·by_cases e:i=j
  ·subst e
   rw[Array.getElem?_setIfInBounds_self_of_lt (by rw[h.size];exact hi)]
   simp
  ·rw[L6 e,h.get j hj]
   congr 1
   simp only[List.contains_cons]
   have:(j==i)=false:=by simpa using Ne.symm e
   rw[this,Mb]
 ·rcases J8.1 hj with rfl|hj
  ·exact hi
  ·exact h.lt j hj
section
variable {E : Env} {B0 : Nat} {X A : Nat → Prop} {w0 : World} {nt : Nat}
theorem f7r(hE:EnvOK E)(hC:b1u E){ops:Array Oper}{K:St→Prop}{R:Exit→Act→World→Prop}(hR:∀st a w μ,SD E B0 X A w0 nt st a w μ→K st→R .normal a w):
 ∀(f:Nat) (done:List Nat) (listed:Array Bool) (st:St) (a:Act) (w:World) (μ:Mu),SD E B0 X A w0 nt st a w μ→Rel ops listed done→anyK E nt ops K f done st→wpAny E.P .any ops R f listed a w:=by
 intro f
 induction f with
 |zero=>
  intro done listed st a w μ h hr hk
  simp only[anyK]at hk
  unfold wpAny
  rw[g9v hr]
  split at hk
  ·rename_i e;exact⟨e,hR st a w μ h hk⟩
  ·exact hk.elim
 |succ f ih=>
  intro done listed st a w μ h hr hk
  simp only[anyK,d2c]at hk
  unfold wpAny
  rw[g9v hr]
  split at hk
  ·rename_i e
   rw[e]
   exact⟨fun _=>hR st a w μ h hk,fun i hi=>by simp at hi⟩
  ·rename_i i0 r e
   rw[e]
   refine⟨fun e=>E4,fun i hi=> ?_⟩
   have qq:=f1v hk i hi
   unfold wpOp
   split at qq
   rotate_left
   ·exact qq.elim
   rename_i o ho
   split at qq
   rotate_left
   ·exact qq.elim
   rename_i p st' hs
   rw[St.forceO_eq]at qq
   have h9:i<ops.size:=(J9.1 ho).1
   have:=b7b hE hC h hs qq.1.out (K:=wpAny E.P .any ops R f (listed.setIfInBounds i true)) (Q:=R) (fun a' w' μ' gz=>ih _ _ st' a' w' μ' gz (hr.next h9) qq.2)
   split
   ·rename_i gh;rw[ho]at gh;cases gh
   ·rename_i o' mt
    rw[ho]at mt
    cases mt
    split
    ·rename_i hw;rw[Iw hw]at this;exact .inl this
    ·rename_i hw;rw[Iy hw]at this;exact this
theorem d5d(hE:EnvOK E)(hC:b1u E)(hm:E.P.follows .mixedOrders=true){id:Nat}{ops:Array Oper}{K:St→Prop}{st:St}{a:Act}{w:World}{μ:Mu}(h:SD E B0 X A w0 nt st a w μ)(hw:anyK E nt ops K ops.size [] st){R:Exit→Act→World→Prop}
 (hR:∀st' a' w' μ',SD E B0 X A w0 nt st' a' w' μ'→K st'→R .normal a' w'):(Code.region id ops true).wp E.P R a w:=by
 refine wp_region_any hm ?_
 change wpAny E.P .any ops R ops.size (Array.replicate ops.size false) a w.drew
 refine f7r hE hC hR ops.size [] _ st a w.drew μ ⟨h.own.drew,h.fr.trans Fr.drew,h.base,b21 Keeps.drew h.glo,h.dfr,h.size,h.env.keep Keeps.drew,h.fresh,h.anc⟩ ⟨Dv,fun i hi=>by simp[hi],Dv⟩ hw
end
structure Post where
 n:St→Prop
 x:Nat→St→Prop
 r:St→Prop
inductive NL where
 |slot (t:Nat) (T:TypeId) (sz:Nat)
 |cell (k o:Nat) (T:TypeId) (sz:Nat)
def g6v:SV→Bool
 |.con (.slice none 0 0)=>true
 |_=>false
theorem f0t{s:SV}(h:g6v s=true):s=.con (.slice none 0 0):=by
 unfold g6v at h
 split at h
 ·rfl
 ·cases h
def nil1(n:NL)(st:St):St:=match n with
 |.slot t T sz=>match b4a t st.ρ with
  |some e=>match e.guard with
   |none=>match g6v e.sv with
    |true=>⟨⟨t,none,.osl st.own.length⟩::st.ρ,st.own++[.row T sz 0 (fun _=>[]) none]⟩
    |false=>st
   |some _=>st
  |none=>st
 |.cell k o T sz=>match st.own[k]? with
  |some (.cells Tc cs)=>match cs[o]? with
   |some s=>match g6v s with
    |true=>⟨st.ρ,st.own.set k (.cells Tc (cs.set o (.osl st.own.length)))++[.row T sz 0 (fun _=>[]) none]⟩
    |false=>st
   |none=>st
  |_=>st
def nilL:List NL→St→St
 | [],st=>st
 |n::r,st=>nilL r (nil1 n st)
section
variable {E : Env} {B0 : Nat} {X A : Nat → Prop} {w0 : World} {nt : Nat} {st : St} {a : Act} {w : World} {μ : Mu}
theorem c9m(h:SD E B0 X A w0 nt st a w μ)(n:NL):∃μ',SD E B0 X A w0 nt (nil1 n st) a w μ':=by
 have hk:μ st.own.length=none:=h.fresh _ (J2 _)
 have hO:∀(T:TypeId) (sz:Nat),Own B0 X A w (μ.set st.own.length (.slice none 0 0)) (st.own++[.row T sz 0 (fun _=>[]) none])∧Keeps w w (held A μ) (held A (μ.set st.own.length (.slice none 0 0))) μ (μ.set st.own.length (.slice none 0 0)):=
  fun T sz=>d7s (e:=T) (sz:=sz) (f:=fun _=>[]) (h.own.more c2y) hk Dv
 have bg:∀k,st.own.length+1≤k→(μ.set st.own.length (.slice none 0 0)) k=none:=fun k cm=>by
  unfold Mu.set;rw[if_neg Dt];exact h.fresh k Dt
 have gq:∀j x,E.an j=some x→(μ.set st.own.length (.slice none 0 0)) j=some x:=fun j x hx=>by
  have:=h.anc j x hx
  unfold Mu.set
  rw[Iy (fun e=>by rw[e,hk]at this;cases this)]
  exact this
 have dp:(μ.set st.own.length (.slice none 0 0)) st.own.length=some (.slice none 0 0):=Ec
 cases n with
 |slot t T sz=>
  simp only[nil1]
  split
  rotate_left
  ·exact⟨μ,h⟩
  rename_i e he
  split
  rotate_left
  ·exact⟨μ,h⟩
  rename_i hg
  split
  rotate_left
  ·exact⟨μ,h⟩
  rename_i hs
  obtain⟨o1,o2⟩:=hO T sz
  refine⟨_,o1,h.fr,h.base,b21 o2 h.glo,h.dfr,h.size,fun t' e' dw=> ?_,fun k cm=>bg k (by simpa using cm),gq⟩
  simp only[b4a]at dw
  split at dw
  ·rename_i e1
   cases dw
   subst e1
   have:=h.env t e he
   unfold b0d at this⊢
   rw[hg]at this
   simp only at this⊢
   rw[b1a he]at this
   rw[f0t hs]at this
   generalize a.tmps.getD t undef=v at this
   cases this
   exact .osl dp
  ·exact(h.env.keep o2) t' e' dw
 |cell k o T sz=>
  simp only[nil1]
  split
  rotate_left
  ·exact⟨μ,h⟩
  rename_i Tc cs hc
  split
  rotate_left
  ·exact⟨μ,h⟩
  rename_i s hs
  split
  rotate_left
  ·exact⟨μ,h⟩
  rename_i hn
  obtain⟨o1,o2⟩:=hO T sz
  have h9:k<st.own.length:=(Iz.1 hc).1
  refine⟨_,⟨fun j x hj=> ?_,o1.inj,o1.rng,o1.bnd⟩,h.fr,h.base,b21 o2 h.glo,h.dfr,h.size,h.env.keep o2,fun k cm=>bg k (by simpa using cm),gq⟩
  obtain⟨bl,e1,hb⟩:=o1.blk j x hj
  by_cases e:j=k
  ·subst e
   rw[J6 h9,hc]at e1
   cases e1
   refine⟨.cells Tc (cs.set o (.osl st.own.length)),by rw[J6 (by simpa using h9)];simp[h9],?_⟩
   obtain⟨b,vs,rfl,hh,hl,h1,hd⟩:=hb
   refine⟨b,vs,rfl,hh,E9,h1,fun i s' v cc hv=> ?_⟩
   by_cases ei:i=o
   ·subst ei
    have:=hd i s v hs hv
    rw[f0t hn]at this
    have dv:i<cs.length:=(Iz.1 hs).1
    rw[K9 dv]at cc
    cases cc
    cases this
    exact .osl dp
   ·rw[Jb (Ne.symm ei)]at cc
    exact hd i s' v cc hv
  ·refine⟨bl,?_,hb⟩
   by_cases bh:j<st.own.length
   ·rw[J6 bh]at e1
    rw[J6 F0,Jb (Ne.symm e)]
    exact e1
   ·rw[Jr Dt]at e1
    rw[Jr F0]
    simpa using e1
theorem f47(l:List NL):∀{st:St} {μ:Mu},SD E B0 X A w0 nt st a w μ→∃μ',SD E B0 X A w0 nt (nilL l st) a w μ':=by
 induction l with
 |nil=>intro st μ h;exact⟨μ,h⟩
 |cons n l ih=>intro st μ h;obtain⟨μ',h'⟩:=c9m h n;exact ih h'
end
theorem d8c{E:Env}{B0:Nat}{X A:Nat→Prop}{w0:World}{nt:Nat}{st:St}{a:Act}{w:World}{μ:Mu}(h:SD E B0 X A w0 nt st a w μ){l:List Nat}:SD E B0 X A w0 nt ⟨b1m l st.ρ,st.own⟩ a w μ:=
 ⟨h.own,h.fr,h.base,h.glo,h.dfr,h.size,fun t e he=>h.env t e (b4t he).2,h.fresh,h.anc⟩
def ghost(E:Env)(g:Ghost)(st:St):Option (Prop×St):=match g with
 |.focus t=>g1g E t st
 |.unfocus k=>d1h E k st
 |.newFam m T Ts=>d79 m T Ts st
 |.nil t T sz=>some (True,nil1 (.slot t T sz) st)
 |.sel ks=>gSel E ks st
 |.fz k=>some (True,st.fz E k)
 |.keep l=>some (True,⟨b1m l st.ρ,st.own⟩)
 |.flat k=>j0d k st
 |.orders|.two _=>none
theorem d6w{E:Env}{B0:Nat}{X A:Nat→Prop}{w0:World}{nt:Nat}{st:St}{a:Act}{w:World}{μ:Mu}(h:SD E B0 X A w0 nt st a w μ){g:Ghost}{pre:Prop}{st':St}(he:ghost E g st=some (pre,st'))(hp:pre):∃μ',SD E B0 X A w0 nt st' a w μ':=by
 cases g with
 |focus t=>exact d3f h he hp
 |unfocus k=>exact c8b h he
 |newFam m T Ts=>exact d1j h he hp
 |nil t T sz=>cases he;exact c9m h _
 |sel ks=>exact f30 h he
 |fz k=>cases he;exact f0x h k
 |keep l=>cases he;exact⟨μ,d8c h⟩
 |flat k=>exact⟨μ,d6c h he⟩
 |orders=>cases he
 |two t=>cases he
def Ub(p q:Prop):Prop:=p→q
theorem Ub.mk{p q:Prop}(h:p→q):Ub p q:=h
theorem Ub.out{p q:Prop}(h:Ub p q):p→q:=h
attribute [irreducible] Ub
def two(t:Nat)(st:St):Option (Int×St×St):=match b4a t st.ρ with
 |some ⟨_,none,.int k x⟩=>some (x,⟨⟨t,none,.int k 0⟩::st.ρ,st.own⟩,⟨⟨t,none,.int k 1⟩::st.ρ,st.own⟩)
 |_=>none
theorem d5g{E:Env}{B0:Nat}{X A:Nat→Prop}{w0:World}{nt:Nat}{st:St}{a:Act}{w:World}{μ:Mu}(h:SD E B0 X A w0 nt st a w μ){t:Nat}{k:IntKind}{x:Int}{n:Nat}(hl:b4a t st.ρ=some ⟨n,none,.int k x⟩):SD E B0 X A w0 nt ⟨⟨t,none,.int k x⟩::st.ρ,st.own⟩ a w μ:=by
 refine⟨h.own,h.fr,h.base,h.glo,h.dfr,h.size,fun t' e he=> ?_,h.fresh,h.anc⟩
 simp only[b4a]at he
 split at he
 ·rename_i ht
  cases he
  have h0:=h.env t _ hl
  have hs:=b1a hl
  simp only at hs
  subst hs
  exact h0
 ·exact h.env t' e he
def ghK(E:Env)(K:St→Prop):List Ghost→St→Prop
 | [],st=>K st
 |.two t::gs,st=>match two t st with
  |some (x,s0,s1)=>Ask (x=0∨x=1)∧Ub (x=0) (s0.force (ghK E K gs))∧Ub (x=1) (s1.force (ghK E K gs))
  |none=>False
 |g::gs,st=>match ghost E g st with
  |some (p,st')=>Ask p∧st'.force (ghK E K gs)
  |none=>False
def atG(E:Env)(K:St→Prop):List Ghost→St→Prop
 | []=>K
 |g::gs=>ghK E K (g::gs)
theorem b84{E:Env}{B0:Nat}{X A:Nat→Prop}{w0:World}{nt:Nat}{a:Act}{w:World}{K:St→Prop}:∀(gs:List Ghost) {st:St} {μ:Mu},SD E B0 X A w0 nt st a w μ→ghK E K gs st→∃st' μ',SD E B0 X A w0 nt st' a w μ'∧K st':=by
 intro gs
 induction gs with
 |nil=>intro st μ h hk;exact⟨st,μ,h,hk⟩
 |cons g gs ih=>
  intro st μ h hk
  unfold ghK at hk
  split at hk
  ·cases ‹List.cons _ _=[]›
  ·rename_i t gs' je
   cases je
   split at hk
   ·rename_i x s0 s1 he
    simp only[St.force_eq]at hk
    obtain⟨hx,h0,h1⟩:=hk
    unfold two at he
    split at he
    ·rename_i n k y hl
     cases he
     rcases hx.out with rfl|rfl
     ·exact ih (d5g h hl) (h0.out rfl)
     ·exact ih (d5g h hl) (h1.out rfl)
    ·cases he
   ·exact hk.elim
  ·rename_i g' gs' _ je
   cases je
   split at hk
   ·rename_i p st' he
    rw[St.force_eq]at hk
    obtain⟨μ',h'⟩:=d6w h he hk.1.out
    exact ih h' hk.2
   ·exact hk.elim
structure Inv where
 β:Type
 st:β→St
 ok:β→Prop
 μ:β→Nat
 nl:List NL:=[]
 sub:β→Option (Nat→Option Inv):=fun _=>none
 un:Option Nat:=none
def Inv.unroll(n:Nat):Inv:={β:=Empty,st:=fun e=>e.elim,ok:=fun _=>False,μ:=fun _=>0,un:=some n}
def d8w(F:Post→St→Prop)(Q:Post):Nat→St→Prop
 |0,_=>False
 |n+1,st=>F ⟨d8w F Q n,Q.x,Q.r⟩ st
def Br(b:Bool)(p q:Prop):Prop:=match b with
 |true=>p
 |false=>q
theorem Br.mk{b:Bool}{p q:Prop}(h:b=true→p)(k:b=false→q):Br b p q:=by cases b;exact k rfl;exact h rfl
theorem Br.t{p q:Prop}(h:Br true p q):p:=h
theorem Br.f{p q:Prop}(h:Br false p q):q:=h
theorem Br.litT{b:Bool}{p q:Prop}(h:b=true)(hp:p):Br b p q:=by subst h;exact hp
theorem Br.litF{b:Bool}{p q:Prop}(h:b=false)(hq:q):Br b p q:=by subst h;exact hq
attribute [irreducible] Br
def b5g:Code→Nat
 |.region id _ _=>id
 |.seq a _=>b5g a
 |.block _ c=>b5g c
 |.loop c=>b5g c
 |.scope c=>b5g c
 |_=>0
def b3d(b:Bool):Code→Bool
 |.region _ ops d=> !d||c9i (kb b ops) ops
 |.seq x y=>b3d b x&&b3d b y
 |.cond _ x y=>b3d b x&&b3d b y
 |.block _ c=>b3d b c
 |.loop c=>b3d b c
 |.scope c=>b3d b c
 |_=>true
def wpC(E:Env)(nt:Nat)(I:Nat→Option Inv):Code→Post→St→Prop
 |.skip,Q,st=>Q.n st
 |.region id ops d,Q,st=>match d with
  |true=>match E.gr id with
   |.orders::gs=>anyK E nt ops (atG E Q.n gs) ops.size [] st
   |_=>j38 E nt ops (atG E Q.n (E.gr id)) st
  |false=>f3b E nt ops (atG E Q.n (E.gr id)) ops.toList st
 |.seq a b,Q,st=>wpC E nt I a ⟨fun st'=>wpC E nt I b Q st',Q.x,Q.r⟩ st
 |.cond c x y,Q,st=>match opd E st.ρ none c with
  |some (.bool b)=>Br b (wpC E nt I x Q st) (wpC E nt I y Q st)
  |some (.ub p q)=>Ub p (wpC E nt I x Q st)∧Ub q (wpC E nt I y Q st)
  |_=>False
 |.block i b,Q,st=>wpC E nt I b ⟨Q.n,fun j st'=>if j=i then atG E Q.n (E.gr (1000+i)) st' else Q.x j st',Q.r⟩ st
 |.loop b,Q,st=>match I (b5g b)with
  |some v=>match v.un with
   |some n=>d8w (fun Q st=>wpC E nt I b Q st) Q n st
   |none=>∃z,v.ok z∧f5m (nilL v.nl st) (v.st z)∧∀z,v.ok z→match ancB E (v.st z)with
    |true=>wpC E nt ((v.sub z).getD I) b ⟨fun st'=>∃z',v.ok z'∧v.μ z'<v.μ z∧f5m st' (v.st z'),Q.x,Q.r⟩ (v.st z)
    |false=>False
  |none=>False
 |.exit i,Q,st=>Q.x i st
 |.ret,Q,st=>Q.r st
 |.label _,Q,st=>Q.n st
 |.scope b,Q,st=>wpC E nt I b Q st
 |_,_,_=>False
theorem f3h{P:Program}{Q:Exit→Act→World→Prop}{c:Code}(J:Nat→Act→World→Prop)
 (round:∀n a w,J n a w→c.wp P (Exit.then (fun a' w'=>∃m,m<n∧J m a' w') Q) a w):∀n a w,J n a w→(Code.loop c).wp P Q a w:=by
 intro n a w h b k cs
 have key:∀n a w,J n a w→∃e a' w',Q e a' w'∧Arrives P (lone (b.at a (.code c::.inLoop c::k)) cs w) b k cs e a' w':=by
  intro n
  induction n using Nat.strongRecOn with
  |_ n ih=>
   intro a w hI
   obtain⟨e,a₁,w₁,hq,dt⟩:=round n a w hI b (.inLoop c::k) cs
   cases e with
   |normal=>
    obtain⟨m,hm,hI₁⟩:=hq
    obtain⟨e₂,a₂,w₂,hq₂,harr₂⟩:=ih m hm a₁ w₁ hI₁
    exact Dd
   |exit id=>exact⟨_,a₁,w₁,hq,.pass (x:=.inLoop c) rfl (fun _ _=>.inl Dv) dt⟩
   |goto l=>exact⟨_,a₁,w₁,hq,.pass (x:=.inLoop c) rfl (fun _ _=>.inl Dv) dt⟩
   |ret=>exact⟨_,a₁,w₁,hq,.pass (x:=.inLoop c) rfl (fun _ _=>.inl Dv) dt⟩
   |panic ch=>exact⟨_,a₁,w₁,hq,.pass (x:=.inLoop c) rfl (fun _ _=>.inl Dv) dt⟩
   |outgrown=>exact⟨_,a₁,w₁,hq,.pass (x:=.inLoop c) rfl (fun _ _=>.inl Dv) dt⟩
 obtain⟨e,a',w',hq,dt⟩:=key n a w h
 exact⟨e,a',w',hq,.of_steps (.one step_loop) dt⟩
def LW(P:Program)(c:Code)(Q:Exit→Act→World→Prop)(a:Act)(w:World):Prop:=∀(b:Frame) (k:List Item) (cs:List Frame),∃e a' w',Q e a' w'∧Arrives P (lone (b.at a (.code c::.inLoop c::k)) cs w) b k cs e a' w'
theorem LW.loop{P:Program}{Q:Exit→Act→World→Prop}{c:Code}{a:Act}{w:World}(h:LW P c Q a w):(Code.loop c).wp P Q a w:=fun b k cs=>
 let ⟨e,a',w',hq,dt⟩:=h b k cs
 ⟨e,a',w',hq,.of_steps (.one step_loop) dt⟩
theorem LW.once{P:Program}{Q:Exit→Act→World→Prop}{c:Code}{a:Act}{w:World}(h:c.wp P (Exit.then (fun a' w'=>LW P c Q a' w') Q) a w):LW P c Q a w:=by
 intro b k cs
 obtain⟨e,a₁,w₁,hq,dt⟩:=h b (.inLoop c::k) cs
 cases e with
 |normal=>
  obtain⟨e₂,a₂,w₂,hq₂,harr₂⟩:=hq b k cs
  exact Dd
 |exit id=>exact⟨_,a₁,w₁,hq,.pass (x:=.inLoop c) rfl (fun _ _=>.inl Dv) dt⟩
 |goto l=>exact⟨_,a₁,w₁,hq,.pass (x:=.inLoop c) rfl (fun _ _=>.inl Dv) dt⟩
 |ret=>exact⟨_,a₁,w₁,hq,.pass (x:=.inLoop c) rfl (fun _ _=>.inl Dv) dt⟩
 |panic ch=>exact⟨_,a₁,w₁,hq,.pass (x:=.inLoop c) rfl (fun _ _=>.inl Dv) dt⟩
 |outgrown=>exact⟨_,a₁,w₁,hq,.pass (x:=.inLoop c) rfl (fun _ _=>.inl Dv) dt⟩
section
variable {E : Env} {B0 : Nat} {X A : Nat → Prop} {w0 : World} {nt : Nat}
def PostOK(E:Env)(B0:Nat)(X A:Nat→Prop)(w0:World)(nt:Nat)(Q:Post)(R:Exit→Act→World→Prop):Prop:=
 (∀st a w μ,SD E B0 X A w0 nt st a w μ→Q.n st→R .normal a w)∧(∀i st a w μ,SD E B0 X A w0 nt st a w μ→Q.x i st→R (.exit i) a w)∧(∀st a w μ,SD E B0 X A w0 nt st a w μ→Q.r st→R .ret a w)
theorem g1m(hE:EnvOK E)(hC:b1u E){ops:Array Oper}{R:Exit→Act→World→Prop}:∀(l:List Oper) (st:St) (a:Act) (w:World) (μ:Mu) (pre:Prop) (st':St),SD E B0 X A w0 nt st a w μ→seqR E nt ops l st=some (pre,st')→pre→
 (∀a' w' μ',SD E B0 X A w0 nt st' a' w' μ'→R .normal a' w')→wpList E.P ops R l a w:=by
 intro l
 induction l with
 |nil=>
  intro st a w μ pre st' h he _ hR
  simp only[seqR,Ib]at he
  obtain⟨_,rfl⟩:=he
  exact hR a w μ h
 |cons o l ih=>
  intro st a w μ pre st' h he hp hR
  simp only[seqR,J3,Ia]at he
  obtain⟨⟨p1,st1⟩,h1,⟨p2,st2⟩,h2,rfl,rfl⟩:=he
  refine wpList_step (fun K hK=> ?_)
  exact b7b hE hC h h1 hp.1 (fun a' w' μ' hs=>hK _ _ (ih st1 a' w' μ' p2 st2 hs h2 hp.2 hR))
theorem c7i(hE:EnvOK E)(hC:b1u E)(hm:E.P.follows .mixedOrders=true):∀(c:Code) (I:Nat→Option Inv) (Q:Post) (R:Exit→Act→World→Prop) (st:St) (a:Act) (w:World) (μ:Mu),b3d E.c2 c=true→SD E B0 X A w0 nt st a w μ→PostOK E B0 X A w0 nt Q R→
 wpC E nt I c Q st→c.wp E.P R a w:=by
 intro c
 induction c with
 |skip=>intro I Q R st a w μ _ h hQ hw;exact wp_skip (hQ.1 st a w μ h hw)
 |region id ops d=>
  intro I Q R st a w μ du h hQ hw
  simp only[wpC]at hw
  have fin:∀{st' a' w' μ'},SD E B0 X A w0 nt st' a' w' μ'→atG E Q.n (E.gr id) st'→R .normal a' w':=by
   intro st' a' w' μ' hs hk
   cases hg:E.gr id with
   |nil=>rw[hg]at hk;exact hQ.1 st' a' w' μ' hs hk
   |cons g gs=>
    rw[hg]at hk
    obtain⟨st2,μ2,jr,df⟩:=b84 _ hs hk
    exact hQ.1 st2 a' w' μ2 jr df
  cases d with
  |false=>
   obtain⟨p,st',he,hp,hk⟩:=f74 _ _ hw
   exact wp_region_list (g1m hE hC _ st a w μ p st' h he hp (fun a' w' μ' hs=>fin hs hk))
  |true=>
   dsimp only at hw
   split at hw
   ·rename_i gs hg
    refine d5d hE hC hm h hw (fun st' a' w' μ' hs hk=> ?_)
    cases gs with
    |nil=>exact hQ.1 st' a' w' μ' hs hk
    |cons g gs=>
     obtain⟨st2,μ2,jr,df⟩:=b84 _ hs hk
     exact hQ.1 st2 a' w' μ2 jr df
   ·exact f3f hE hC hm Fq h hw (fun st' a' w' μ' hs hk=>fin hs hk)
 |seq x y ihx ihy=>
  intro I Q R st a w μ du h hQ hw
  simp only[b3d,Km]at du
  refine wp_seq (ihx I ⟨fun st'=>wpC E nt I y Q st',Q.x,Q.r⟩ _ st a w μ du.1 h ⟨fun st' a' w' μ' hs hn=>ihy I Q R st' a' w' μ' du.2 hs hQ hn,fun i st' a' w' μ' hs hn=>hQ.2.1 i st' a' w' μ' hs hn,fun st' a' w' μ' hs hn=>hQ.2.2 st' a' w' μ' hs hn⟩ hw)
 |cond c x y ihx ihy=>
  intro I Q R st a w μ du h hQ hw
  simp only[b3d,Km]at du
  simp only[wpC]at hw
  split at hw
  ·rename_i b hb
   have hd:=h.opds (g:=none) (fun q b e=>E4) _ _ hb
   generalize hv:a.eval c=v at hd
   cases hd
   refine wp_cond hv ?_
   cases b
   ·exact ihy I Q R st a w μ du.2 h hQ hw.f
   ·exact ihx I Q R st a w μ du.1 h hQ hw.t
  ·rename_i hb
   have hd:=h.opds (g:=none) (fun q b e=>E4) _ _ hb
   generalize hv:a.eval c=v at hd
   cases hd with
   | @ub b p q h1 h2=>
   refine wp_cond hv ?_
   cases b
   ·exact ihy I Q R st a w μ du.2 h hQ (hw.2.out (h2 rfl))
   ·exact ihx I Q R st a w μ du.1 h hQ (hw.1.out (h1 rfl))
  ·exact hw.elim
 |block i b ih=>
  intro I Q R st a w μ du h hQ hw
  have fin:∀{st' a' w' μ'},SD E B0 X A w0 nt st' a' w' μ'→atG E Q.n (E.gr (1000+i)) st'→R .normal a' w':=by
   intro st' a' w' μ' hs hk
   cases hg:E.gr (1000+i)with
   |nil=>rw[hg]at hk;exact hQ.1 st' a' w' μ' hs hk
   |cons g gs=>
    rw[hg]at hk
    obtain⟨st2,μ2,jr,df⟩:=b84 _ hs hk
    exact hQ.1 st2 a' w' μ2 jr df
  refine wp_block (ih I ⟨Q.n,fun j st'=>if j=i then atG E Q.n (E.gr (1000+i)) st' else Q.x j st',Q.r⟩ _ st a w μ Fq h ⟨fun st' a' w' μ' hs hn=>hQ.1 st' a' w' μ' hs hn,fun j st' a' w' μ' hs hn=> ?_,fun st' a' w' μ' hs hn=>hQ.2.2 st' a' w' μ' hs hn⟩ hw)
  show (if j=i then R .normal a' w' else R (.exit j) a' w')
  split
  ·rename_i e
   exact fin hs (by simpa[e]using hn)
  ·rename_i e
   replace hn:Q.x j st':=by simpa[e]using hn
   exact hQ.2.1 j st' a' w' μ' hs hn
 |loop b ih=>
  intro I Q R st a w μ du h hQ hw
  simp only[wpC]at hw
  split at hw
  rotate_left
  ·exact hw.elim
  rename_i v hv
  split at hw
  ·rename_i n hn
   have key:∀(n:Nat) (st:St) (a:Act) (w:World) (μ:Mu),SD E B0 X A w0 nt st a w μ→d8w (fun Q st=>wpC E nt I b Q st) Q n st→LW E.P b R a w:=by
    intro n
    induction n with
    |zero=>intro st a w μ _ h;exact h.elim
    |succ n ihn=>
     intro st a w μ hs hw
     refine LW.once ?_
     exact ih I ⟨d8w (fun Q st=>wpC E nt I b Q st) Q n,Q.x,Q.r⟩ _ st a w μ Fq hs ⟨fun st2 a2 w2 μ2 jr hn=>ihn st2 a2 w2 μ2 jr hn,fun i st2 a2 w2 μ2 jr hn=>hQ.2.1 i st2 a2 w2 μ2 jr hn,fun st2 a2 w2 μ2 jr hn=>hQ.2.2 st2 a2 w2 μ2 jr hn⟩ hw
   exact(key n st a w μ h hw).loop
  obtain⟨z,hz,ju,hround'⟩:=hw
  have ke:∀z,v.ok z→ancB E (v.st z)=true∧wpC E nt ((v.sub z).getD I) b ⟨fun st'=>∃z',v.ok z'∧v.μ z'<v.μ z∧f5m st' (v.st z'),Q.x,Q.r⟩ (v.st z):=by
   intro z hz
   have:=hround' z hz
   split at this
   ·rename_i e;exact⟨e,this⟩
   ·exact this.elim
  obtain⟨μ0,h0⟩:=f47 v.nl h
  obtain⟨μ',h'⟩:=c4y h0 ju (ke z hz).1
  refine f3h (fun n a' w'=>∃z μ'',v.ok z∧v.μ z=n∧SD E B0 X A w0 nt (v.st z) a' w' μ'') (fun n a' w' hJ=> ?_) (v.μ z) a w ⟨z,μ',hz,rfl,h'⟩
  obtain⟨z',μ'',qk,rfl,hs⟩:=hJ
  refine ih ((v.sub z').getD I) ⟨fun st'=>∃z2,v.ok z2∧v.μ z2<v.μ z'∧f5m st' (v.st z2),Q.x,Q.r⟩ _ (v.st z') a' w' μ'' Fq hs ⟨fun st2 a2 w2 μ2 jr hn=> ?_,fun i st2 a2 w2 μ2 jr hn=>hQ.2.1 i st2 a2 w2 μ2 jr hn,fun st2 a2 w2 μ2 jr hn=>hQ.2.2 st2 a2 w2 μ2 jr hn⟩ (ke z' qk).2
  obtain⟨z2,z6,h9,nh⟩:=hn
  obtain⟨μ3,h3⟩:=c4y jr nh (ke z2 z6).1
  exact⟨v.μ z2,h9,z2,μ3,z6,rfl,h3⟩
 |exit i=>intro I Q R st a w μ _ h hQ hw;exact wp_exit (hQ.2.1 i st a w μ h hw)
 |ret=>intro I Q R st a w μ _ h hQ hw;exact wp_ret (hQ.2.2 st a w μ h hw)
 |rangeFunc f p x y _ _=>intro I Q R st a w μ _ h hQ hw;exact hw.elim
 |scope b ih=>
  intro I Q R st a w μ du h hQ hw
  exact wp_scope_straight (ih I Q _ st a w μ Fq h ⟨hQ.1,hQ.2.1,hQ.2.2⟩ hw)
 |label l=>intro I Q R st a w μ _ h hQ hw;exact wp_label (hQ.1 st a w μ h hw)
 |goto l=>intro I Q R st a w μ _ h hQ hw;exact hw.elim
 |refuse s=>intro I Q R st a w μ _ h hQ hw;exact hw.elim
end
def b2h:List SV→List SV→Prop
 | [],[]=>True
 |s::r,t::q=>s.le2 t∧b2h r q
 |_,_=>False
theorem c4f:∀{cs cs':List SV},b2h cs cs'→cs.length=cs'.length∧∀(i:Nat) (t:SV),cs'[i]?=some t→∃s,cs[i]?=some s∧s.le2 t
 | [],[],_=>⟨rfl,fun i t h=>E7⟩
 |s::r,t::q,h=>by
  obtain⟨h1,h2⟩:=c4f h.2
  refine⟨Eh,fun i t' ht=> ?_⟩
  match i with
  |0=>simp at ht;subst ht;exact⟨s,rfl,h.1⟩
  |i+1=>simpa using h2 i t' Ew
 | [],_::_,h=>h.elim
 |_::_,[],h=>h.elim
def b9g(n:Nat):List SV→List Entry
 | []=>[]
 |s::r=>⟨n,none,s⟩::b9g (n+1) r
theorem c6x{t:Nat}{e:Entry}:∀(l:List SV) (n:Nat),b4a t (b9g n l)=some e→e.guard=none∧n≤t∧l[t-n]?=some e.sv:=by
 intro l
 induction l with
 |nil=>intro n h;simp[b9g,b4a]at h
 |cons s r ih=>
  intro n h
  simp only[b9g,b4a]at h
  split at h
  ·rename_i e1
   cases h
   subst e1
   exact⟨rfl,J2 _,Dv⟩
  ·obtain⟨h1,h2,h3⟩:=ih (n+1) h
   refine⟨h1,Dt,?_⟩
   rw[show t-n=(t-(n+1))+1 from Dt]
   simpa using h3
def c50(E:Env)(st:St):ResultVar→Option SV
 |.tmp t=>(opd E st.ρ none (.tmp t)).bind (SV.roA st.own)
 |.cell t T=>(opd E st.ρ none (.tmp t)).bind fun p=>match p with
  |.own k o=>(c5x E.P st.own T (.own k o)).bind fun r=>r.2.roA st.own
  |_=>none
def g4z(E:Env)(fn:Func)(st:St):Option SV:=match fn.results.toList with
 | [r]=>c50 E st r
 |rs=>(rs.mapM (c50 E st)).map .tup
def d60(E:Env)(fn:Func)(s:SV)(st:St):Prop:=match g4z E fn st with
 |some r=>r.le2 s
 |none=>False
structure Fam where
 ι:Type
 args:ι→List SV
 pre:ι→Prop
 res:ι→SV
def Law(F:Fam)(k:List SV→Option (Prop×SV)):Prop:=∀zs p s,k zs=some (p,s)→p→∃i,b2h zs (F.args i)∧F.pre i∧s=F.res i
section
variable {E : Env}
def c1m(tmps:Array Value):ResultVar→Sem Value
 |.tmp t=>pure (tmps.getD t undef)
 |.cell a t=>do loadVar t (←asAddr (tmps.getD a undef))
theorem c39(fn:Func)(tmps:Array Value):results fn tmps=(do let vs←fn.results.mapM (c1m tmps);pure (if h:vs.size=1 then vs[0]else .tuple vs)):=by
 unfold results
 have:c1m tmps=fun(r:ResultVar)=>(match r with
  |.tmp t=>pure (tmps.getD t undef)
  |.cell a t=>do loadVar t (←asAddr (tmps.getD a undef)):Sem Value):=by
  funext r
  cases r<;>rfl
 rw[this]
 rfl
variable {B0 : Nat} {X A : Nat → Prop} {w0 : World} {nt : Nat} {st : St} {a : Act} {w : World} {μ : Mu}
theorem c9q(h:SD E B0 X A w0 nt st a w μ){r:ResultVar}{s:SV}(he:c50 E st r=some s):∃v,(c1m a.tmps r).run E.P w=.ok v w∧D w A b0a s v:=by
 have hρ:=h.opds (g:=none) (fun q b e=>E4)
 have ro:∀{s t:SV} {v:Value},D w (held A μ) μ s v→s.roA st.own=some t→D w A b0a t v:=fun hd hr=>b7z h.own (fun _ _ h=>h) (fun _ h=>.inl h) hd hr (fun _ _ h=>h)
 cases r with
 |tmp t=>
  simp only[c50,J3]at he
  obtain⟨s0,h0,he⟩:=he
  exact⟨_,rfl,ro (hρ _ _ h0) he⟩
 |cell t T=>
  simp only[c50,J3]at he
  obtain⟨p,hp,he⟩:=he
  split at he
  ·rename_i k o
   simp only[J3]at he
   obtain⟨⟨q,s0⟩,hl,he⟩:=he
   have hq:q:=by
    simp only[c5x,Ii,Ib]at hl
    obtain⟨n,_,cs,_,s',_,rfl,_⟩:=hl
    exact Ix
   have gy:=hρ _ _ hp
   obtain⟨u,hu,hd⟩:=c33 h.own (fun _ _ h=>h) gy hl hq
   refine⟨u,?_,ro hd he⟩
   generalize hv:a.eval (.tmp t)=v at gy hu
   have dm:a.tmps.getD t undef=v:=hv
   cases gy with
   |own hk=>
    simp only[c1m,dm,asAddr,Ic]
    simpa[Instr.loadAt,Instr.sureAddr]using hu
  ·cases he
theorem d8r(h:SD E B0 X A w0 nt st a w μ):∀(l:List ResultVar) (ss:List SV),l.mapM (c50 E st)=some ss→∃vs,(l.mapM (c1m a.tmps)).run E.P w=.ok vs w∧DL w A b0a ss vs:=by
 intro l
 induction l with
 |nil=>intro ss h;simp at h;subst h;exact⟨[],Dv,rfl,fun i s v h=>E7⟩
 |cons r l ih=>
  intro ss hs
  simp only[L7,Ii,Option.pure_def,Jh]at hs
  obtain⟨s1,h1,ss',h2,rfl⟩:=hs
  obtain⟨v,hv,hd⟩:=c9q h h1
  obtain⟨vs,v7,hD⟩:=ih ss' h2
  refine⟨v::vs,Ht,by simp[hD.1],fun i s v' hs dm=> ?_⟩
  match i with
  |0=>simp at hs dm;subst hs dm;exact hd
  |i+1=>exact hD.2 i s v' Fm (by simpa using dm)
theorem c5e(h:SD E B0 X A w0 nt st a w μ){fn:Func}{s:SV}(he:g4z E fn st=some s):∃v,(results fn a.tmps).run E.P w=.ok v w∧D w A b0a s v:=by
 rw[c39,Lk,Array.mapM_eq_mapM_toList,Sem.run_map]
 unfold g4z at he
 split at he
 ·rename_i r hr
  obtain⟨v,hv,hd⟩:=c9q h he
  refine⟨v,?_,hd⟩
  rw[hr,L7,Lk,hv]
  simp
 ·rename_i rs bb
  simp only[J1]at he
  obtain⟨ss,z7,rfl⟩:=he
  obtain⟨vs,v7,hD⟩:=d8r h _ ss z7
  refine⟨.tuple vs.toArray,?_,.tup vs hD.1 hD.2⟩
  rw[v7]
  obtain⟨l1,_⟩:=b38 z7
  have b8:vs.length≠1:=by
   rw[hD.1,l1]
   intro h1
   match hl:fn.results.toList,h1 with
   | [r],_=>exact bb r hl
  simp[b8]
theorem verify{P:Program}{glob:Nat→Option SV}{f:FuncId}{fn:Func}{code:Code}(E:Env)(z8:E.P=P)(z9:E.glob=glob)(zr:E.na=0)(hE:EnvOK E)(hC:b1u E)(hm:P.follows .mixedOrders=true)(hf:P.funcs[f]?=some fn)(hb:fn.body=some code)(hn:(fn.name== "runtime.NumGoroutine")=false)
 (F:Fam) (I:F.ι→Nat→Option Inv) (k:List SV→Option (Prop×SV)) (hk:Law F k) (b8:∀i,(F.args i).length≤fn.ntmps) (du:b3d E.c2 code=true)
 (H:∀i,F.pre i→wpC E fn.ntmps (I i) code ⟨d60 E fn (F.res i),fun _ _=>False,d60 E fn (F.res i)⟩ ⟨b9g 0 (F.args i),[]⟩):f2r P glob f k:=by
 subst z8 z9
 refine⟨⟨fn,hf,hn,by rw[hb];rfl⟩,fun A w args vals pre s hA hg hD hr hp=> ?_⟩
 obtain⟨i,bj,cd,rfl⟩:=hk args pre s hr hp
 obtain⟨l1,l2⟩:=c4f bj
 have rk:vals.length≤fn.ntmps:=Gw
 refine calls_of_wp hf hb ?_
 have hS:SD E w.heap.size (fun _=>False) A w fn.ntmps ⟨b9g 0 (F.args i),[]⟩ {tmps:=vals.toArray++Array.replicate (fn.ntmps-vals.toArray.size) undef,defers:=[]} w b0a:=by
  refine⟨⟨fun k x h=>E2,fun k k' x x' b h=>E2,fun k x b h=>E2,hA⟩,Fr.refl _ _ _,J2 _,fun g s qy=>⟨(hg g s qy).1,?_⟩,rfl,E5,fun t e he=> ?_,fun _ _=>rfl,fun k x hx=>Hv⟩
  ·exact De
  ·obtain⟨h1,_,h3⟩:=c6x _ _ he
   unfold b0d
   rw[h1]
   simp only
   rw[b1a he]
   have h9:t<(F.args i).length:=(Iz.1 h3).1
   obtain⟨s0,bv,qa⟩:=l2 t e.sv Ga
   have rz:t<vals.length:=Gx
   have hd:=hD.2 t s0 vals[t] bv (Iv rz)
   have cz:(vals.toArray++Array.replicate (fn.ntmps-vals.toArray.size) undef).getD t undef=vals[t]:=by
    simp[Array.getElem?_append,rz]
   rw[cz]
   have:=b37 hd qa
   exact Df
 refine c7i hE hC hm code (I i) ⟨d60 E fn (F.res i),fun _ _=>False,d60 E fn (F.res i)⟩ _ _ _ w b0a du hS ⟨fun st a w' μ hs hr=> ?_,fun i st a w' μ hs hr=>hr.elim,fun st a w' μ hs hr=> ?_⟩ (H i cd)
 all_goals
  replace hr:d60 E fn (F.res i) st:=hr
  unfold d60 at hr
  split at hr
  ·rename_i r dn
   obtain⟨v,hv,hd⟩:=c5e hs dn
   exact⟨hs.dfr,v,hv,v,rfl,b37 hd hr,hs.fr⟩
  ·exact hr.elim
def g2a(st:St):SV→Prop
 |.osl k=>match st.own[k]? with
  |some (.row _ _ n f _)=>∀i,i<n→(f i).all SV.flat0=true
  |_=>False
 |.sl _ n _ _=>n=0
 |s=>if s.flat0 then True else False
def g82(E:Env)(fn:Func)(s:SV)(st:St):Prop:=match fn.results.toList with
 | [.tmp t]=>match opd E st.ρ none (.tmp t)with
   |some s0=>g2a st s0∧d60 E fn s st
   |none=>False
 |_=>False
theorem f8y{w:World}{H:Nat→Prop}{μ:Mu}{x:Value}{T:TypeId}{sz n:Nat}{f:Nat→List SV}{c:Option Nat}{B:Nat}(hx:∀b,Has x b→¬b<B)(hf:∀i,i<n→(f i).all SV.flat0=true)(h:b19 w H μ x (.row T sz n f c)):D w (fun b=>b<B) b0a (.sl sz n f c) x:=by
 obtain⟨a,m,rfl,hn,hm,hc,hl,b9⟩:=h
 rcases b9 with rfl|⟨b,o,vs,c7,rfl,hh,ho,h1,hD⟩
 ·exact Cj
 ·have ta:=hx b (b1p c7)
  have c6:∀i j,i<n→j<sz→o+i*sz+j<vs.length:=fun i j hi hj=>by
   have:=b59 hi hj
   have:n*sz≤m*sz:=Jt _ hn
   omega
  refine .sl _ b o m (fun i j=>vs.getD (o+i*sz+j) undef) hn hm hc (fun _=>⟨rfl,ta,b29 hh,fun i j hi hj=> ?_⟩) hl (fun i j s hi hs=> ?_)
  ·have:=c6 i j hi hj
   rw[b62 hh,Iv this]
   simp only[Im,Iv this]
   exact Ck
  ·have hj:j<sz:=G2
   have:=c6 i j hi hj
   simp only[Im,Iv this]
   exact c5w (J4.1 (hf i hi) s (J0 hs)) (hD i j s _ hi hs (Iv this))
theorem d89(h:SD E B0 (fun _=>False) A w0 nt st a w μ){s t:SV}{v:Value}(hd:D w (held A μ) μ s v)(hr:s.roA st.own=some t)(hf:g2a st s):D w (fun b=>b<B0) b0a t v:=by
 unfold g2a at hf
 split at hf
 ·rename_i k
  split at hf
  ·rename_i T sz n f c hk
   simp only[SV.roA,SV.ro,SV.ro1,hk,Jh]at hr
   subst hr
   cases hd with
   |osl hμ=>
   obtain⟨bl,e,b6⟩:=h.own.blk _ _ hμ
   rw[hk]at e
   cases e
   refine f8y (fun b hb h9=> ?_) hf b6
   rcases(h.own.rng _ _ b hμ hb).2.2 with h3|h3
   ·omega
   ·exact h3
  ·exact hf.elim
 ·rename_i sz n f c
  subst hf
  simp only[SV.roA,SV.ro,SV.ro1,Jh]at hr
  subst hr
  cases hd with
  |sl a b o m g hm hx hc h8 hl hD=>exact .sl a b o m g hm hx hc (fun h=>absurd h (Ln _)) hl (fun i j s hi=>absurd hi (Je _))
 ·split at hf
  ·rename_i dq
   have dq:s.flat0=true:=dq
   have tc:D w A b0a t v:=b7z h.own (fun _ _ h=>h) (fun _ h=>.inl h) hd hr (fun _ _ h=>h)
   have:t.flat0=true:=by
    revert hr dq
    cases s<;>simp_all[SV.flat0,SV.roA,SV.ro,SV.ro1]
    all_goals(intros;subst_vars;simp_all[])
   exact c5w this tc
  ·exact hf.elim
theorem j26{P:Program}{glob:Nat→Option SV}{f:FuncId}{fn:Func}{code:Code}(E:Env)(z8:E.P=P)(z9:E.glob=glob)(zr:E.na=0)(hE:EnvOK E)(hC:b1u E)(hm:P.follows .mixedOrders=true)(hf:P.funcs[f]?=some fn)(hb:fn.body=some code)(hn:(fn.name== "runtime.NumGoroutine")=false)
 (F:Fam) (I:F.ι→Nat→Option Inv) (k:List SV→Option (Prop×SV)) (hk:Law F k) (b8:∀i,(F.args i).length≤fn.ntmps) (du:b3d E.c2 code=true)
 (H:∀i,F.pre i→wpC E fn.ntmps (I i) code ⟨g82 E fn (F.res i),fun _ _=>False,g82 E fn (F.res i)⟩ ⟨b9g 0 (F.args i),[]⟩):f2r P glob f k∧f0i P glob f k:=by
 subst z8 z9
 refine⟨⟨⟨fn,hf,hn,by rw[hb];rfl⟩,?_⟩,?_⟩
 all_goals
  intro A w args vals pre s hA hg hD hr hp
  obtain⟨i,bj,cd,rfl⟩:=hk args pre s hr hp
  obtain⟨l1,l2⟩:=c4f bj
  have rk:vals.length≤fn.ntmps:=Gw
  refine calls_of_wp hf hb ?_
  have hS:SD E w.heap.size (fun _=>False) A w fn.ntmps ⟨b9g 0 (F.args i),[]⟩ {tmps:=vals.toArray++Array.replicate (fn.ntmps-vals.toArray.size) undef,defers:=[]} w b0a:=by
   refine⟨⟨fun k x h=>E2,fun k k' x x' b h=>E2,fun k x b h=>E2,hA⟩,Fr.refl _ _ _,J2 _,fun g s qy=>⟨(hg g s qy).1,?_⟩,rfl,E5,fun t e he=> ?_,fun _ _=>rfl,fun k x hx=>Hv⟩
   ·exact De
   ·obtain⟨h1,_,h3⟩:=c6x _ _ he
    unfold b0d
    rw[h1]
    simp only
    rw[b1a he]
    have h9:t<(F.args i).length:=(Iz.1 h3).1
    obtain⟨s0,bv,qa⟩:=l2 t e.sv Ga
    have rz:t<vals.length:=Gx
    have hd:=hD.2 t s0 vals[t] bv (Iv rz)
    have cz:(vals.toArray++Array.replicate (fn.ntmps-vals.toArray.size) undef).getD t undef=vals[t]:=by
     simp[Array.getElem?_append,rz]
    rw[cz]
    have:=b37 hd qa
    exact Df
  refine c7i hE hC hm code (I i) ⟨g82 E fn (F.res i),fun _ _=>False,g82 E fn (F.res i)⟩ _ _ _ w b0a du hS ⟨fun st a w' μ hs hr=> ?_,fun i st a w' μ hs hr=>hr.elim,fun st a w' μ hs hr=> ?_⟩ (H i cd)
  all_goals
   replace hr:g82 E fn (F.res i) st:=hr
   unfold g82 at hr
   split at hr
   rotate_left
   ·exact hr.elim
   rename_i t N2
   split at hr
   rotate_left
   ·exact hr.elim
   rename_i s0 bv
   obtain⟨bg,hr⟩:=hr
   unfold d60 at hr
   split at hr
   ·rename_i r dn
    obtain⟨v,hv,hd⟩:=c5e hs dn
    first
     |exact⟨hs.dfr,v,hv,v,rfl,b37 hd hr,hs.fr⟩
     |(refine⟨hs.dfr,v,hv,v,rfl,?_,hs.fr⟩
       have gy:=hs.opds (g:=none) (fun q b e=>E4) _ _ bv
       unfold g4z at dn
       rw[N2]at dn
       simp only[c50,bv,Lq]at dn
       have jf:a.eval (.tmp t)=v:=by
        rw[c39,Lk,Array.mapM_eq_mapM_toList,Sem.run_map,N2]at hv
        simp[c1m]at hv
        show a.tmps.getD t undef=v
        rw[←hv];simp
       rw[jf]at gy
       exact b37 (d89 hs gy dn bg) hr)
   ·exact hr.elim
end
section
variable {H : Type} {enc : TypeId × Value → H} {P : Program} {w : World} {base : Nat} {sp : Nat → Bool} {held : Bool} {fuel : Nat} {t : TypeId} {cs : List Value} {x : DataW H × List MemPlace}
theorem d4i{k:IntKind}{n:Int}(h:(Lit.int k n).wf=true):inK k n:=by
 simp only[Lit.wf,Ih]at h
 cases k<;>simp[IntKind.min,IntKind.max,IntKind.bits,IntKind.signed]at h<;>simp only[inK]<;>omega
theorem c5u{k:IntKind}(ht:P.underlying t=some (.int k))(h:DataW.trod enc P w base sp held fuel t cs=some x):∃n,cs=[.int k n]∧inK k n:=by
 obtain⟨n,e,_,hw⟩:=DataW.trod_int ht h
 exact⟨n,e,d4i hw⟩
theorem d4g{fs:Array Field}(ht:P.underlying t=some (.struct fs))(h:DataW.trod enc P w base sp held fuel t cs=some x):
 cs.length=P.cellsOf t∧∀f∈fs.toList,∃m y,DataW.trod enc P w base sp held m f.type ((cs.drop f.offset).take (P.cellsOf f.type))=some y:=by
 obtain⟨xs,m,rfl,_,hl,mi,hx⟩:=DataW.trod_struct ht h
 refine⟨hl,fun f hf=> ?_⟩
 obtain⟨i,hi,e⟩:=Jg.1 hf
 have b7:i<fs.size:=Ej
 have:=hx i f (by rw[La b7,←e];simp)
 refine⟨m,xs[i]'Dt,?_⟩
 rw[this,Iv Dt]
theorem f09(b o i:Nat):(⟨b,o,none⟩:Addr).add i=⟨b,o+i,none⟩:=by
 unfold Addr.add
 split
 ·rename_i h;subst h;rfl
 ·rfl
theorem rd_sl{α:Type}(d0:α)(encS:α→List SV)(ok:α→Prop){e:TypeId}{sz:Nat}(ht:P.underlying t=some (.slice e))(bk:P.cellsOf e=sz)(dg:0<sz){A:Nat→Prop}(hA:∀b,¬A b)
 (el:∀m R y,DataW.trod enc P w base sp held m e R=some y→∃q,ok q∧(encS q).length=sz∧(encS q).all SV.pure=true∧(∀v∈R,v.oneCell'=true)∧∀(j:Nat) (s:SV) (v:Value),(encS q)[j]?=some s→R[j]?=some v→D w A b0a s v)
 (h:DataW.trod enc P w base sp held fuel t cs=some x):
 ∃(l:List α) (v:Value),cs=[v]∧v.oneCell'=true∧D w A b0a (.sl sz l.length (fun i=>encS (l.getD i d0)) none) v∧∀q∈l,ok q:=by
 rcases DataW.trod_slice ht h with⟨rfl,_⟩|⟨a,len,cap,elems,rest,m,rfl,rfl,_,hb,hlc,ve,Pr,h8,_,_⟩
 ·exact⟨[],_,rfl,rfl,.sl none 0 0 0 (fun _ _=>undef) (J2 _) (J5 _) (.inl rfl) (fun h=>absurd h Dv) (fun i hi=>absurd hi Dv) (fun i j s hi=>absurd hi Dv),fun q hq=>by cases hq⟩
 ·have key:∀i,i<len→∃(R:List Value) (q:α),(R.length=sz∧∀j,j<sz→w.cell? ((a.add (i*sz)).add j)=R[j]?)∧ok q∧(encS q).length=sz∧(encS q).all SV.pure=true∧(∀v∈R,v.oneCell'=true)∧∀(j:Nat) (s:SV) (v:Value),(encS q)[j]?=some s→R[j]?=some v→D w A b0a s v:=by
   intro i hi
   have:=h8 i hi
   rw[bk,Iv Dt]at this
   rw[J3]at this
   obtain⟨R,hR,hy⟩:=this
   obtain⟨_,h2,h3⟩:=World.cells?_some hR
   obtain⟨q,hq⟩:=el m R _ hy
   exact⟨R,q,⟨h2,h3⟩,hq⟩
  let G:Nat→List Value:=fun i=>if hi:i<len then(key i hi).choose else []
  let Q:Nat→α:=fun i=>if hi:i<len then(key i hi).choose_spec.choose else d0
  have hG:∀i,i<len→((G i).length=sz∧∀j,j<sz→w.cell? ((a.add (i*sz)).add j)=(G i)[j]?)∧ok (Q i)∧(encS (Q i)).length=sz∧(encS (Q i)).all SV.pure=true∧(∀v∈G i,v.oneCell'=true)∧∀(j:Nat) (s:SV) (v:Value),(encS (Q i))[j]?=some s→(G i)[j]?=some v→D w A b0a s v:=by
   intro i hi
   simp only[G,Q,hi,dif_pos]
   exact(key i hi).choose_spec.choose_spec
  have hQ:∀i,i<len→((List.range len).map Q).getD i d0=Q i:=fun i hi=>Gy
  have b8:((List.range len).map Q).length=len:=Dv
  have spot:0<len→∃b o,a=⟨b,o,none⟩:=by
   intro h0
   obtain⟨⟨g1,g2⟩,_⟩:=hG 0 h0
   have:=g2 0 dg
   rw[Iv Dt]at this
   have hs:=World.cell?_spot this
   obtain⟨b,o,s⟩:=a
   have:s=none:=by simpa[Addr.add]using hs
   exact⟨b,o,by rw[this]⟩
  have cq:∀b o,a=⟨b,o,none⟩→∀i j,i<len→j<sz→w.cell? ⟨b,o+i*sz+j,none⟩=some ((G i).getD j undef):=by
   rintro b o rfl i j hi hj
   obtain⟨⟨g1,g2⟩,_⟩:=hG i hi
   have:=g2 j hj
   rw[Iv Dt]at this
   rw[f09,f09]at this
   rw[It,Iv Dt,this]
   rfl
  have Qc:∀(b o:Nat),(0<len→a=⟨b,o,none⟩)→D w A b0a (.sl sz ((List.range len).map Q).length (fun i=>encS (((List.range len).map Q).getD i d0)) none) (.slice (some a) len cap):=by
   intro b o hao
   rw[b8]
   refine .sl (some a) b o cap (fun i j=>(G i).getD j undef) hlc ve (.inl rfl) (fun h0=> ?_) (fun i hi=> ?_) (fun i j s hi hs=> ?_)
   ·have ha:=hao h0
    refine⟨by rw[ha],hA b,?_,fun i j hi hj=>⟨cq b o ha i j hi hj,?_⟩⟩
    ·have:=cq b o ha 0 0 h0 dg
     unfold World.cell? at this
     split at this
     ·rename_i c T fz hc;exact(J9.1 hc).1
     ·cases this
    ·obtain⟨⟨g1,_⟩,_,_,_,g5,_⟩:=hG i hi
     show ((G i).getD j undef).oneCell'=true
     rw[It,Iv Dt]
     exact g5 _ (Jn _)
   ·rw[hQ i hi]
    exact⟨(hG i hi).2.2.1,(hG i hi).2.2.2.1⟩
   ·rw[hQ i hi]at hs
    obtain⟨⟨g1,_⟩,_,g3,_,_,g6⟩:=hG i hi
    have hj:j<sz:=by rw[←g3];exact(Iz.1 hs).1
    refine g6 j s _ hs ?_
    simp only[It]
    rw[Iv Dt]
    rfl
  refine⟨(List.range len).map Q,.slice (some a) len cap,rfl,rfl,?_,fun q hq=> ?_⟩
  ·rcases Jx len with h0|h0
   ·exact Qc 0 0 (fun h=>absurd h Dt)
   ·obtain⟨b,o,e⟩:=spot h0
    exact Qc b o (fun _=>e)
  ·obtain⟨i,hi,rfl⟩:=Ja.1 hq
   exact(hG i (K1.1 hi)).2.1
mutual
def f32:DataW H→List Value
 |.lit (.int k n)=>[.int k n]
 |.lit (.bool b)=>[.bool b]
 |.agg ps=>g56 ps
 |_=>[]
def g56:List (DataW H)→List Value
 | []=>[]
 |d::r=>f32 d++g56 r
end
mutual
def c8k:DataW H→Bool
 |.lit (.int _ _)=>true
 |.lit (.bool _)=>true
 |.agg ps=>f2f ps
 |_=>false
def f2f:List (DataW H)→Bool
 | []=>true
 |d::r=>c8k d&&f2f r
end
theorem d1q:∀l:List (DataW H),g56 l=(l.map f32).flatten
 | []=>rfl
 |d::r=>by simp[g56,d1q r]
theorem c2x:∀{l:List (DataW H)},f2f l=true→∀d∈l,c8k d=true
 | [],_,d,h=>E2
 |x::r,h,d,hd=>by
  simp only[f2f,Km]at h
  rcases J8.1 hd with rfl|hd
  ·exact h.1
  ·exact c2x h.2 d hd
theorem c6a:∀(ss:List Nat) (cs:List Value) (ys:List (List Value)),ys.length=ss.length→cs.length=ss.sum→(∀(i s:Nat) (y:List Value),ss[i]?=some s→ys[i]?=some y→(cs.drop (ss.take i).sum).take s=y)→cs=ys.flatten:=by
 intro ss
 induction ss with
 |nil=>
  intro cs ys hy hc _
  obtain rfl:ys=[]:=Lg.1 hy
  obtain rfl:cs=[]:=Lg.1 Ei
  rfl
 |cons s ss ih=>
  intro cs ys hy hc hp
  match ys,hy with
  |y::ys,hy=>
   have h0:=hp 0 s y rfl rfl
   simp at h0
   have:=ih (cs.drop s) ys (by simpa using hy) (by simp at hc⊢;omega) (fun i s' y' hs gm=>by
    have:=hp (i+1) s' y' Fm (by simpa using gm)
    simp only[List.take_succ_cons,List.sum_cons]at this
    rw[List.drop_drop]
    exact this)
   rw[List.flatten_cons,←this,←h0,List.take_append_drop]
theorem g5t{P:Program}{t:TypeId}(h:isVar P t=true):t<P.types.size:=by
 simp only[isVar,Ih]at h;exact h.1
theorem f4t(hl:laidOutB P=true)(h:isVar P t=true):rowFine P t=true:=by
 simp only[laidOutB,Km]at hl
 exact J4.1 hl.1.1 t (K1.2 (g5t h))
def g1k(P:Program):Nat→TypeId→Bool
 |0,_=>false
 |n+1,t=>match P.underlying t with
  |some (.int _)|some .bool=>true
  |some (.struct fs)=>fs.toList.all fun f=>g1k P n f.type
  |some (.array _ e)=>g1k P n e
  |_=>false
theorem f90(hl:laidOutB P=true):∀(fuel:Nat) (t:TypeId) (cs:List Value) (x:DataW H×List MemPlace) (n:Nat),g1k P n t=true→isVar P t=true→DataW.trod enc P w base sp held fuel t cs=some x→c8k x.1=true→cs=f32 x.1:=by
 intro fuel
 induction fuel with
 |zero=>intro t cs x n _ _ h;simp[DataW.trod]at h
 |succ m ih=>
  intro t cs x n hf hv h hp
  match n,hf with
  |n'+1,hf=>
  unfold g1k at hf
  have hr:=f4t hl hv
  unfold rowFine at hr
  simp only[hv,Bool.not_true,Mb]at hr
  cases hu:P.underlying t with
  |none=>simp[DataW.trod,hu]at h
  |some T=>
   cases T with
   |int k=>
    obtain⟨n,rfl,rfl,_⟩:=DataW.trod_int hu h
    rfl
   |bool=>
    obtain⟨b,rfl,rfl⟩:=DataW.trod_bool hu h
    rfl
   |struct fs=>
    rw[hu]at hr
    simp only[In,J4]at hr
    obtain⟨⟨hfv,P2⟩,ck⟩:=hr
    obtain⟨xs,m',em,rfl,d9,mi,hx⟩:=DataW.trod_struct hu h
    obtain rfl:m=m':=Dt
    simp only[c8k]at hp
    have fm:=c2x hp
    simp only[f32,d1q,M6]
    refine c6a (fs.toList.map fun f=>P.cellsOf f.type) cs _ (by simp[mi]) (by rw[d9,P2]) (fun i s y hs hy=> ?_)
    rw[Jv,J1]at hs hy
    obtain⟨f,qn,rfl⟩:=hs
    obtain⟨z,hz,rfl⟩:=hy
    have hi:i<fs.toList.length:=(Iz.1 qn).1
    have ho:=ck i (K1.2 hi)
    rw[qn]at ho
    simp only[Lp]at ho
    have:=hx i f (by simpa using qn)
    rw[hz]at this
    rw[←List.map_take]at*
    rw[←ho]
    rw[hu]at hf
    exact ih f.type _ z n' (J4.1 hf f (J0 qn)) (hfv f (J0 qn)) this (fm z.1 (List.mem_map_of_mem (J0 hz)))
   |array n e=>
    rw[hu]at hr
    simp only[In]at hr
    obtain⟨kd,P2⟩:=hr
    obtain⟨xs,m',em,rfl,d9,mi,hx⟩:=DataW.trod_array hu h
    obtain rfl:m=m':=Dt
    simp only[c8k]at hp
    have fm:=c2x hp
    simp only[f32,d1q,M6]
    refine c6a (List.replicate n (P.cellsOf e)) cs _ (by simp[mi]) (by rw[d9,P2];simp) (fun i s y hs hy=> ?_)
    rw[Jv,J1]at hy
    obtain⟨z,hz,rfl⟩:=hy
    have hi:i<n:=by have:=(Iz.1 hs).1;simpa using this
    have cc:s=P.cellsOf e:=by simp[hi]at hs;exact hs.symm
    subst cc
    have:=hx i hi
    rw[hz]at this
    rw[List.take_replicate,List.sum_replicate_nat,Nat.min_eq_left (Nat.le_of_lt hi)]
    rw[hu]at hf
    exact ih e _ z n' hf kd this (fm z.1 (List.mem_map_of_mem (J0 hz)))
   |_=>
    simp[hu]at hf
end
def svIs:SV→Value→Bool
 |.int k n,.int k' m=>k==k'&&n==m
 |.bool b,.bool c=>b==c
 |.clo f [],.func (.func g) a b=>f==g&&a.isEmpty&&b.isEmpty
 |_,_=>false
theorem f8f{w:World}{H:Nat→Prop}{μ:Mu}{s:SV}{v:Value}(h:svIs s v=true):D w H μ s v∧v.oneCell'=true∧s.pure=true:=by
 unfold svIs at h
 split at h
 ·simp only[In]at h
  obtain⟨rfl,rfl⟩:=h
  exact⟨.int,rfl,rfl⟩
 ·simp only[Lp]at h
  subst h
  exact⟨.bool,rfl,rfl⟩
 ·rename_i f g a b
  simp only[In,Array.isEmpty_iff]at h
  obtain⟨⟨rfl,rfl⟩,rfl⟩:=h
  exact⟨.clo [] rfl (fun i s v h=>E7),rfl,rfl⟩
 ·cases h
def f65(sz n:Nat)(f:Nat→List SV)(cs:List Value):Bool:=
 cs.length==n*sz&&(List.range n).all fun i=>(f i).length==sz&&((f i).zip ((cs.drop (i*sz)).take sz)).all fun x=>svIs x.1 x.2
theorem d3z{w:World}{A:Nat→Prop}{μ:Mu}{g sz n:Nat}{f:Nat→List SV}{cs:List Value}(dg:0<n)(hA:¬A g)(hg:g<w.heap.size)(hc:∀k,w.cell? ⟨g,k,none⟩=cs[k]?)(hk:f65 sz n f cs=true):(SV.rel sz n f 0 0).pure=true∧D w A μ (.rel sz n f 0 0) (.pointer (some ⟨g,0,none⟩)):=by
 simp only[f65,In,J4]at hk
 obtain⟨d9,hk⟩:=hk
 have c6:∀i j,i<n→j<sz→i*sz+j<cs.length:=fun i j hi hj=>by
  have:=Jt sz (show i+1≤n from hi);rw[Kv,Nat.one_mul]at this;omega
 have bu:∀i j,i<n→j<sz→∀s,(f i)[j]?=some s→svIs s (cs.getD (i*sz+j) undef)=true:=by
  intro i j hi hj s hs
  obtain⟨h1,h2⟩:=hk i (K1.2 hi)
  refine h2 (s,cs.getD (i*sz+j) undef) (Kj.2 ⟨j,?_⟩)
  rw[List.getElem?_zip_eq_some]
  refine⟨hs,?_⟩
  rw[List.getElem?_take,Iw hj,List.getElem?_drop,It,Iv (c6 i j hi hj)]
  rfl
 have b8:∀i,i<n→(f i).length=sz:=fun i hi=>(hk i (K1.2 hi)).1
 refine⟨rfl,?_⟩
 have:=D.rel (w:=w) (H:=A) (μ:=μ) (sz:=sz) (n:=n) (i:=0) (off:=0) (f:=f) g 0 (fun i j=>cs.getD (i*sz+j) undef) dg hA ⟨hg,fun i j hi hj=>⟨?_,?_⟩⟩ (fun i hi=>⟨b8 i hi,?_⟩) (fun i j s hi hs=> ?_)
 ·simpa using this
 ·show w.cell? ⟨g,0+i*sz+j,none⟩=some (cs.getD (i*sz+j) undef)
  rw[Kf,hc,It,Iv (c6 i j hi hj)]
  rfl
 ·have rb:j<(f i).length:=by rw[b8 i hi];exact hj
  exact(f8f (w:=w) (H:=A) (μ:=μ) (bu i j hi hj _ (Iv rb))).2.1
 ·rw[J4]
  intro s hs
  obtain⟨j,hj,e⟩:=Jg.1 hs
  have P3:j<sz:=by rw[←b8 i hi];exact hj
  exact(f8f (w:=w) (H:=A) (μ:=μ) (bu i j hi P3 s (by rw[Iv hj,e]))).2.2
 ·have P3:j<sz:=by rw[←b8 i hi];exact(Iz.1 hs).1
  exact(f8f (bu i j hi P3 s hs)).1
structure FamH where
 ι:Type
 args:ι→List SV
 own:ι→List Blk
 pre:ι→Prop
 res:ι→SV
 own':ι→List Blk
 chg:List Nat
def LawH(F:FamH)(h:HK):Prop:=∀zs bs r,h zs bs=some r→r.pre→∃i,b2h zs (F.args i)∧bs.length=(F.own i).length∧d56 (F.own i).length bs (F.own i)∧F.pre i∧r.res=F.res i∧r.own=F.own' i∧r.chg=F.chg
def c8s(E:Env)(st:St):ResultVar→Option SV
 |.tmp t=>opd E st.ρ none (.tmp t)
 |.cell t T=>(opd E st.ρ none (.tmp t)).bind fun p=>match p with
  |.own k o=>(c5x E.P st.own T (.own k o)).map (·.2)
  |_=>none
def j2b(E:Env)(fn:Func)(st:St):Option SV:=match fn.results.toList with
 | [r]=>c8s E st r
 |rs=>(rs.mapM (c8s E st)).map .tup
def f9k(E:Env)(fn:Func)(F:FamH)(i:F.ι)(st:St):Prop:=match j2b E fn st with
 |some r=>r.le2 (F.res i)∧(if(F.res i).in2 (F.own' i).length=true then True else False)∧d56 (F.own' i).length st.own (F.own' i)
 |none=>False
section
variable {E : Env} {B0 : Nat} {X A : Nat → Prop} {w0 : World} {nt : Nat} {st : St} {a : Act} {w : World} {μ : Mu}
theorem c9s(h:SD E B0 X A w0 nt st a w μ){r:ResultVar}{s:SV}(he:c8s E st r=some s):∃v,(c1m a.tmps r).run E.P w=.ok v w∧D w (held A μ) μ s v:=by
 have hρ:=h.opds (g:=none) (fun q b e=>E4)
 cases r with
 |tmp t=>
  simp only[c8s]at he
  exact⟨_,rfl,hρ _ _ he⟩
 |cell t T=>
  simp only[c8s,J3]at he
  obtain⟨p,hp,he⟩:=he
  split at he
  ·rename_i k o
   simp only[J1]at he
   obtain⟨⟨q,s0⟩,hl,rfl⟩:=he
   have hq:q:=by
    simp only[c5x,Ii,Ib]at hl
    obtain⟨n,_,cs,_,s',_,rfl,_⟩:=hl
    exact Ix
   have gy:=hρ _ _ hp
   obtain⟨u,hu,hd⟩:=c33 h.own (fun _ _ h=>h) gy hl hq
   refine⟨u,?_,hd⟩
   generalize hv:a.eval (.tmp t)=v at gy hu
   have dm:a.tmps.getD t undef=v:=hv
   cases gy with
   |own hk=>
    simp only[c1m,dm,asAddr,Ic]
    simpa[Instr.loadAt,Instr.sureAddr]using hu
  ·cases he
theorem d6s(h:SD E B0 X A w0 nt st a w μ):∀(l:List ResultVar) (ss:List SV),l.mapM (c8s E st)=some ss→∃vs,(l.mapM (c1m a.tmps)).run E.P w=.ok vs w∧DL w (held A μ) μ ss vs:=by
 intro l
 induction l with
 |nil=>intro ss h;simp at h;subst h;exact⟨[],Dv,rfl,fun i s v h=>E7⟩
 |cons r l ih=>
  intro ss hs
  simp only[L7,Ii,Option.pure_def,Jh]at hs
  obtain⟨s1,h1,ss',h2,rfl⟩:=hs
  obtain⟨v,hv,hd⟩:=c9s h h1
  obtain⟨vs,v7,hD⟩:=ih ss' h2
  refine⟨v::vs,Ht,by simp[hD.1],fun i s v' hs dm=> ?_⟩
  match i with
  |0=>simp at hs dm;subst hs dm;exact hd
  |i+1=>exact hD.2 i s v' Fm (by simpa using dm)
theorem g1a(h:SD E B0 X A w0 nt st a w μ){fn:Func}{s:SV}(he:j2b E fn st=some s):∃v,(results fn a.tmps).run E.P w=.ok v w∧D w (held A μ) μ s v:=by
 rw[c39,Lk,Array.mapM_eq_mapM_toList,Sem.run_map]
 unfold j2b at he
 split at he
 ·rename_i r hr
  obtain⟨v,hv,hd⟩:=c9s h he
  refine⟨v,?_,hd⟩
  rw[hr,L7,Lk,hv]
  simp
 ·rename_i rs bb
  simp only[J1]at he
  obtain⟨ss,z7,rfl⟩:=he
  obtain⟨vs,v7,hD⟩:=d6s h _ ss z7
  refine⟨.tuple vs.toArray,?_,.tup vs hD.1 hD.2⟩
  rw[v7]
  obtain⟨l1,_⟩:=b38 z7
  have b8:vs.length≠1:=by
   rw[hD.1,l1]
   intro h1
   match hl:fn.results.toList,h1 with
   | [r],_=>exact bb r hl
  simp[b8]
end
structure GhX where
 g0:List Ghost:=[]
 gx:St→List Ghost:=fun _=>[]
def inG(E:Env)(G:GhX)(K:St→Prop)(st:St):Prop:=match G.g0 with
 | []=>K st
 |g::gs=>ghK E K (g::gs) st
def g2k(E:Env)(G:GhX)(K:St→Prop)(st:St):Prop:=match G.gx st with
 | []=>K st
 |g::gs=>ghK E K (g::gs) st
theorem j4e{P:Program}{glob:Nat→Option SV}{f:FuncId}{fn:Func}{code:Code}(F:FamH)(E:(i:F.ι)→Mu→Env)(z8:∀i μ,(E i μ).P=P)(z9:∀i μ,(E i μ).glob=glob)(zr:∀i μ,(E i μ).na=(F.own i).length∧(E i μ).ax=(fun k=> !F.chg.contains k)∧(E i μ).av=μ)
 (hE:∀i μ,EnvOK (E i μ)) (hC:∀i μ,b1u (E i μ)) (hm:P.follows .mixedOrders=true)
 (hf:P.funcs[f]?=some fn) (hb:fn.body=some code) (hn:(fn.name== "runtime.NumGoroutine")=false) (I:F.ι→Nat→Option Inv) (h:HK) (hh:LawH F h) (b8:∀i,(F.args i).length≤fn.ntmps) (db:∀i,(F.own i).length≤(F.own' i).length) (G:GhX) (du:∀i μ,b3d (E i μ).c2 code=true)
 (H:∀i μ,F.pre i→inG (E i μ) G (wpC (E i μ) fn.ntmps (I i) code ⟨g2k (E i μ) G (f9k (E i μ) fn F i),fun _ _=>False,g2k (E i μ) G (f9k (E i μ) fn F i)⟩) ⟨b9g 0 (F.args i),F.own i⟩):f6w P glob f h:=by
 refine⟨⟨fn,hf,hn,by rw[hb];rfl⟩,fun A w args vals own μ r hA hg hO d3 hD hr hp=> ?_⟩
 obtain⟨i,bj,mz,gt,cd,e1,e2,e3⟩:=hh args own r hr hp
 have hEP':=z8 i μ
 subst hEP'
 obtain⟨l1,l2⟩:=c4f bj
 have rk:vals.length≤fn.ntmps:=Gw
 have mr:cut (F.own i).length μ=μ:=by
  funext k
  unfold cut
  split
  ·rfl
  ·rename_i hk
   exact(d3 k Dt).symm
 obtain⟨ha1,ha2,Qd⟩:=zr i μ
 refine calls_of_wp hf hb ?_
 have hS:SD (E i μ) w.heap.size (b7t μ) A w fn.ntmps ⟨b9g 0 (F.args i),F.own i⟩ {tmps:=vals.toArray++Array.replicate (fn.ntmps-vals.toArray.size) undef,defers:=[]} w μ:=by
  refine⟨⟨fun k x hk=> ?_,hO.inj,fun k x b hk hx=>⟨(hO.rng k x b hk hx).1,(hO.rng k x b hk hx).2.1,.inr ⟨k,x,hk,hx⟩⟩,hA⟩,Fr.refl _ _ _,J2 _,fun g s qy=> ?_,rfl,E5,fun t e he=> ?_,fun k hk=>d3 k (by rw[mz];exact hk),fun k x hx=> ?_⟩
  ·obtain⟨bl,e,b6⟩:=hO.blk k x hk
   have h9:k<(F.own i).length:=by rw[←mz];exact(Iz.1 e).1
   obtain⟨b,e2,bj⟩:=c15 gt k _ (Iv h9)
   rw[e]at e2
   cases e2
   refine⟨_,Iv h9,?_⟩
   have:=Blk.le_sound (H':=held A μ) (fun _ h=>h) b6 bj
   rwa[mr]at this
  ·rw[z9]at qy
   exact⟨(hg g s qy).1,(hg g s qy).2.keep ⟨J2 _,fun _ _ _=>rfl,fun _ _ h=>h,fun _ _ h=>E2⟩⟩
  ·obtain⟨h1,_,h3⟩:=c6x _ _ he
   unfold b0d
   rw[h1]
   simp only
   rw[b1a he]
   have h9:t<(F.args i).length:=(Iz.1 h3).1
   obtain⟨s0,bv,qa⟩:=l2 t e.sv Ga
   have rz:t<vals.length:=Gx
   have hd:=hD.2 t s0 vals[t] bv (Iv rz)
   have cz:(vals.toArray++Array.replicate (fn.ntmps-vals.toArray.size) undef).getD t undef=vals[t]:=by
    simp[Array.getElem?_append,rz]
   rw[cz]
   exact b37 hd qa
  ·have n8:=Env.an_ak hx
   unfold Env.an at hx
   rw[Iw n8,Qd]at hx
   exact hx
 have c6:∃st0 μ0,SD (E i μ) w.heap.size (b7t μ) A w fn.ntmps st0 {tmps:=vals.toArray++Array.replicate (fn.ntmps-vals.toArray.size) undef,defers:=[]} w μ0∧wpC (E i μ) fn.ntmps (I i) code ⟨g2k (E i μ) G (f9k (E i μ) fn F i),fun _ _=>False,g2k (E i μ) G (f9k (E i μ) fn F i)⟩ st0:=by
  have h0:=H i μ cd
  unfold inG at h0
  split at h0
  ·exact⟨_,_,hS,h0⟩
  ·exact b84 _ hS h0
 obtain⟨st0,μ0,hS0,hH0⟩:=c6
 refine c7i (hE i μ) (hC i μ) hm code (I i) ⟨g2k (E i μ) G (f9k (E i μ) fn F i),fun _ _=>False,g2k (E i μ) G (f9k (E i μ) fn F i)⟩ _ _ _ w μ0 (du i μ) hS0 ⟨fun st1 a w' μ1 hs hr=> ?_,fun i st a w' μ2 hs hr=>hr.elim,fun st1 a w' μ1 hs hr=> ?_⟩ hH0
 all_goals
  have de:∃st μ2,SD (E i μ) w.heap.size (b7t μ) A w fn.ntmps st a w' μ2∧f9k (E i μ) fn F i st:=by
   replace hr:g2k (E i μ) G (f9k (E i μ) fn F i) st1:=hr
   unfold g2k at hr
   split at hr
   ·exact⟨_,_,hs,hr⟩
   ·exact b84 _ hs hr
  clear hr hs
  obtain⟨st,μ2,hs,hr⟩:=de
  unfold f9k at hr
  split at hr
  ·rename_i rs dn
   obtain⟨hr1,qr,hr3⟩:=hr
   have c6:(F.res i).in2 (F.own' i).length=true:=by
    split at qr
    ·assumption
    ·exact qr.elim
   obtain⟨v,hv,hd⟩:=g1a hs dn
   have hH:∀b,held A (cut (F.own' i).length μ2) b→held A μ2 b:=by
    intro b hb
    rcases hb with hb|⟨k,x,hk,hx⟩
    ·exact .inl hb
    ·refine .inr ⟨k,x,?_,hx⟩
     unfold cut at hk
     split at hk
     ·exact hk
     ·cases hk
   have md:∀{k x},cut (F.own' i).length μ2 k=some x→k<(F.own' i).length∧μ2 k=some x:=by
    intro k x hk
    unfold cut at hk
    split at hk
    ·exact⟨‹_›,hk⟩
    ·cases hk
   rw[e1,e2,e3]
   refine⟨hs.dfr,v,hv,v,cut (F.own' i).length μ2,rfl,⟨fun k x hk=> ?_,fun k k' x x' b hk cm=>hs.own.inj k k' x x' b (md hk).2 (md cm).2,fun k x b hk hx=> ?_,hs.own.bnd⟩,fun k hk=>by unfold cut;rw[if_neg Dt],d3s hH (b37 hd hr1) c6,fun k x hk hc hx=> ?_,hs.fr⟩
   ·obtain⟨h9,hk⟩:=md hk
    obtain⟨bl,e1,hb⟩:=hs.own.blk k x hk
    obtain⟨b,e2,bj⟩:=c15 hr3 k _ (Iv h9)
    rw[e1]at e2
    cases e2
    exact⟨_,Iv h9,Blk.le_sound hH hb bj⟩
   ·exact hs.own.rng k x b (md hk).2 hx
   ·have n8:(E i μ).ak k=true:=by
     unfold Env.ak
     rw[ha1,ha2]
     simp only[Ih]
     exact⟨Dt,by rw[hc];rfl⟩
    have:=hs.anc k x (by unfold Env.an;rw[if_pos n8,Qd];exact hx)
    have mw:k<(F.own' i).length:=by
     exact Jd Dt (db i)
    unfold cut
    rw[Iw mw]
    exact this
  ·exact hr.elim
end Go.Proofs.YtdblhepcmjecgaaGreatDoor.V
