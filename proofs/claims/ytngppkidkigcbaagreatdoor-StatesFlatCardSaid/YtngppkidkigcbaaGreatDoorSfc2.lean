/-
  Parts of the proof: G0 E1 G2 V15 V15b V16 W1 W2 W3 W4 G1 O1 V17 V18 V19 R1 V20. Conditions: none.
-/
import Derived.Test.YtngppkidkigcbaaGreatDoorSfc1
import Derived.ProofKit
import Derived.LaidMore
import Derived.LaidHandle
import Derived.OpenShut
import Derived.Carry
import Derived.Stop.Joined
set_option maxRecDepth 100000
set_option maxHeartbeats 40000000
namespace Go.Proofs.YtngppkidkigcbaaGreatDoor.V
open Go
section
variable{w:World}{H H':Nat->Prop}{μ μ':Mu}
theorem D.shift(A:∀b,H' b->H b)(f:∀j x,μ j=some x->(∀n z,x≠BD n z)->μ' j=some x)
 (E:∀j n z,μ j=some (BD n z)->∃k l,μ' j=some (BD k l)/\∀(i:Nat) (p:Value),n[i]?=some p->k[i]?=some p) {s:SV} {v:Value} (h:D w H μ s v):D w H' μ' s v:=by
 induction h with
 |int=>exact .int
 |bool=>exact .bool
 |con=>exact .con
 |own h=>exact .own (f _ _ h (λ_ _ e=>Ds))
 |osl h=>exact .osl (f _ _ h (λ_ _ e=>Ds))
 |oel h=>exact .oel (f _ _ h (λ_ _ e=>Ds))
 |omp h=>exact .omp (f _ _ h (λ_ _ e=>Ds))
 |mp r g q B c t d=>exact .mp r g (λu=>q (A _ u)) B c d
 |sl a b o m g B hx F C c t d=>
  exact .sl a b o m g B hx F (λG=>by obtain⟨e,q,I⟩:=C G;exact⟨e,λu=>q (A _ u),I⟩) c d
 |rel b o g J q C c t d=>exact .rel b o g J (λu=>q (A _ u)) C c d
 |agg y c t d=>exact .agg y c d
 |tup y c t d=>exact .tup y c d
 |clo y c t d=>exact .clo y c d
 |fp h=>exact D.fp_mk (λn z e=>by obtain⟨k,l,K,L⟩:=E _ _ _ e;exact⟨k,l,K,λp=>L _ p⟩) h
 |ub M N=>exact .ub M N
 |any=>exact .any
theorem QA.shift(a:∀s v,D w H μ s v->D w H' μ' s v){x:Value}{T:TypeId}{cs:List SV}(h:QA w H μ x T cs):QA w H' μ' x T cs:=by obtain⟨b,c,rfl,d,e,f,g⟩:=h;exact⟨b,c,rfl,d,e,f,λi s v hs j=>a _ _ (g i s v hs j)⟩
theorem IA.shift(g:∀s v,s.pure=true->D w H μ s v->D w H' μ' s v){x:Value}{T:TypeId}{sz n:Nat}{f:Nat->List SV}{c:Option Nat}(h:IA w H μ x T sz n f c):IA w H' μ' x T sz n f c:=by
 obtain⟨a,m,rfl,k,l,p,d,q⟩:=h;refine⟨a,m,rfl,k,l,p,d,?_⟩;rcases q with h|⟨b,o,r,t,rfl,u,y,z,A⟩
 .exact .inl h
 .exact .inr ⟨b,o,r,t,rfl,u,y,z,λi j s v e hs B=>g _ _ (Iq.1 (d i e).2 s (Ik hs)) (A i j s v e hs B)⟩
theorem FamOK.less(e:∀b,H' b->H b){T:TypeId}{a:List (TypeId×Nat)}{n:Nat}{c:Option Nat}{F:Nat->Mem}{ps:List Value}{d:List (List Value)}(h:FamOK w H T a n c F ps d):FamOK w H' T a n c F ps d:=
 h.keep ⟨Ir _,λ_ _ _=>rfl,λb _=>e b⟩ (λ_ _=>rfl)
theorem CT.shift(hH:∀b,H' b->H b)(m:∀j x,μ j=some x->(∀ps qs,x≠BD ps qs)->μ' j=some x)
 (A:∀j ps qs,μ j=some (BD ps qs)->∃a d,μ' j=some (BD a d)/\∀(i:Nat) (p:Value),ps[i]?=some p->a[i]?=some p) {x:Value} {bl:Blk} (h:CT w H μ x bl):CT w H' μ' x bl:=by
 have l:∀s v,D w H μ s v->D w H' μ' s v:=λs v h=>h.shift hH m A;cases bl with
 |cells T cs=>exact QA.shift l h
 |row T B n f c=>exact IA.shift (λs v _=>l s v) h
 |map K ag o val=>
  obtain⟨r,g,rfl,t,E,y⟩:=h;exact⟨r,g,rfl,t,E,λq i s v z hs G=>l _ _ (y q i s v z hs G)⟩
 |fam T Ts n bt F=>
  obtain⟨ps,qs,rfl,h,I⟩:=h;refine⟨ps,qs,rfl,h.less hH,λi c e=> ?_⟩;obtain⟨p,e1,J⟩:=I i c e;have L:i<n:=Gf;obtain⟨b,us,C,_⟩:=h.mem i L;rw[e1]at C;cases C;exact⟨_,e1,m _ _ J (λ_ _ e=>Ds)⟩
 |pmap K k o BH=>
  obtain⟨⟨ps,qs,M⟩,r,g,rfl,t,y⟩:=h;obtain⟨a,d,N,_⟩:=A _ _ _ M;exact⟨⟨a,d,N⟩,r,g,rfl,t,λq z=>by obtain⟨p,e,h⟩:=y q z;exact⟨p,e,l _ _ h⟩⟩
 |rowh T B n f c i u=>
  have:=Mt.to id (λ_ _=>rfl) (λs v _ h=>l s v h) l h;rwa[List.map_id]at this
 |pool T B n l al ln ct=>
  obtain⟨ps,qs,rfl,h⟩:=h;exact D0
 |dead=>exact Im
end
section
theorem DY.shift{w:World}{H H':Nat->Prop}{μ μ':Mu}{tmps:Array Value}{ρ:List Entry}(a:∀s v,D w H μ s v->D w H' μ' s v)(h:DY w H μ tmps ρ):DY w H' μ' tmps ρ:=by
 intro t e b;have:=h t e b;unfold CK at this⊢;split at this
 .exact a _ _ this
 .exact⟨λc=>a _ _ (this.1 c),this.2⟩
end
def DQ(c m k:Nat):Bool:=decide (c<=k)&&decide (k<=c+m)
def SV.ment0(c m:Nat):SV->Bool
 |.own k _|.osl k|.omp k|.oel k _ _ _=>DQ c m k
 |.fp _ k _ _=>DQ c m k
 |.agg _|.tup _=>true
 |.clo _ a=> !a.isEmpty
 |_=>false
def SV.uf0(c m:Nat)(s:SV):SV:=match s with
 |.clo f a=>if a.all (λs=> !s.ment0 c m)then .clo f a else .any
 |s=>if s.ment0 c m then .any else s
def SV.uf1(c m:Nat):SV->SV
 |.agg a=>.agg (a.map (SV.uf0 c m))
 |s=>s.uf0 c m
def SV.uf2(c m:Nat):SV->SV
 |.tup a=>.tup (a.map (SV.uf1 c m))
 |s=>s.uf1 c m
def Blk.uf(c m:Nat):Blk->Blk
 |.cells T e=>.cells T (e.map (SV.uf0 c m))
 |.pmap K k a BH=>if DQ c m k then .dead else .pmap K k a BH
 |.fam T g n (some (i,d)) F=>if DQ c m d then .dead else .fam T g n (some (i,d)) F
 |.rowh T h n f j i u=>.rowh T h n f j i (u.map (SV.uf0 c m))
 |b=>b
structure Drop (c m:Nat) (H H':Nat->Prop) (μ μ':Mu):Prop where
 less:∀b,H' b->H b
 own:∀j x,DQ c m j=false->μ j=some x->(∀ps qs,x≠BD ps qs)->μ' j=some x
 fam:∀j ps qs,DQ c m j=false->μ j=some (BD ps qs)->∃ps' qs',μ' j=some (BD ps' qs')/\∀(i:Nat) (p:Value),ps[i]?=some p->ps'[i]?=some p
section
variable{w:World}{H H':Nat->Prop}{μ μ':Mu}{c m:Nat}
theorem Vl(d:Drop c m H H' μ μ'){s:SV}{v:Value}(h:D w H μ s v)(hs:s.ment0 c m=false):D w H' μ' s v:=by
 cases h with
 |own h=>exact .own (d.own _ _ hs h (λ_ _ e=>Ds))
 |osl h=>exact .osl (d.own _ _ hs h (λ_ _ e=>Ds))
 |oel h=>exact .oel (d.own _ _ hs h (λ_ _ e=>Ds))
 |omp h=>exact .omp (d.own _ _ hs h (λ_ _ e=>Ds))
 |fp h=>exact D.fp_mk (λps qs e=>by obtain⟨j,k,t,u⟩:=d.fam _ _ _ hs e;exact⟨j,k,t,λp=>u _ p⟩) h
 |agg vs hl f=>simp[SV.ment0]at hs
 |tup vs hl f=>simp[SV.ment0]at hs
 |clo vs hl f=>
  simp only[SV.ment0,Bool.not_eq_false',List.isEmpty_iff]at hs;subst hs;exact C5
 |int=>exact .int
 |bool=>exact .bool
 |con=>exact .con
 |ub x y=>exact .ub x y
 |any=>exact .any
 |sl a b o m g l hx z n hl f=>exact GU d.less (.sl a b o m g l hx z n hl f) rfl
 |rel b o g A q n hl f=>exact GU d.less (.rel b o g A q n hl f) rfl
 |mp r g q l hl f=>exact GU d.less (.mp r g q l hl f) rfl
theorem Vd(a:Drop c m H H' μ μ'){s:SV}{v:Value}(h:D w H μ s v):D w H' μ' (s.uf0 c m) v:=by
 unfold SV.uf0;split
 .split
  .rename_i b;cases h with
   |clo d e f=>
    exact .clo d e (λi s v hs g=>Vl a (f i s v hs g) (by simpa using Iq.1 b s (Ik hs)))
  .exact .any
 .split
  .exact .any
  .rename_i hs;exact Vl a h F9
theorem c69(a:Drop c m H H' μ μ'){s:SV}{v:Value}(h:D w H μ s v):D w H' μ' (s.uf1 c m) v:=by
 unfold SV.uf1;split
 .cases h with
  |agg b hl d=>
   refine .agg b Dx (λi s v hs e=> ?_);simp only[I2]at hs;obtain⟨f,g,rfl⟩:=hs;exact Vd a (d i f v g e)
 .exact Vd a h
theorem c43(a:Drop c m H H' μ μ'){s:SV}{v:Value}(h:D w H μ s v):D w H' μ' (s.uf2 c m) v:=by
 unfold SV.uf2;split
 .cases h with
  |tup b hl d=>
   refine .tup b Dx (λi s v hs e=> ?_);simp only[I2]at hs;obtain⟨f,g,rfl⟩:=hs;exact c69 a (d i f v g e)
 .exact c69 a h
theorem CT.drop(a:Drop c m H H' μ μ'){x:Value}{bl:Blk}(h:CT w H μ x bl):CT w H' μ' x (bl.uf c m):=by
 cases bl with
 |cells T cs=>
  obtain⟨b,M,rfl,j,hl,N,I⟩:=h;refine⟨b,M,rfl,j,Dx,N,λi s v hs y=> ?_⟩;simp only[I2]at hs;obtain⟨O,P,rfl⟩:=hs;exact Vd a (I i O v P y)
 |row T J n f c=>exact IA.shift (λs v z hs=>GU a.less hs z) h
 |map K ag A val=>
  obtain⟨r,g,rfl,B,hl,C⟩:=h;exact⟨r,g,rfl,B,hl,λq i s v o hs y=>GU a.less (C q i s v o hs y) (Iq.1 (hl q o).2 s (Ik hs))⟩
 |fam T Ts n Q F=>
  obtain⟨ps,l,rfl,h,j⟩:=h;match Q,h,j with
  |none,h,j=>exact⟨ps,l,rfl,h.less a.less,λi c e=>Ds⟩
  |some (i,d),h,j=>
   simp only[Blk.uf];split
   .exact Im
   rename_i t;refine⟨ps,l,rfl,h.less a.less,λi' c' e=> ?_⟩;cases e;obtain⟨p,e1,R⟩:=j i d rfl;have S:i<n:=Gf;obtain⟨b,us,L,_⟩:=h.mem i S;rw[e1]at L;cases L;exact⟨_,e1,a.own _ _ (by simpa using t) R (λ_ _ e=>Ds)⟩
 |pmap K k A BH=>
  simp only[Blk.uf];split
  .exact Im
  rename_i t;obtain⟨⟨ps,l,U⟩,r,g,rfl,B,C⟩:=h;obtain⟨E,G,V,_⟩:=a.fam _ _ _ (by simpa using t) U;exact⟨⟨E,G,V⟩,r,g,rfl,B,λq o=>by obtain⟨p,e,h⟩:=C q o;exact⟨p,e,Vl a h (by simpa[SV.ment0]using t)⟩⟩
 |rowh T J n f cp i u=>exact Mt.to (SV.uf0 c m) (λ_ _=>rfl) (λs v z h=>GU a.less h z) (λs v h=>Vd a h) h
 |pool T J n I al ln ct=>
  obtain⟨ps,l,rfl,h⟩:=h;exact⟨ps,l,rfl,h.keep (ps:=ps) ⟨Ir _,λ_ _ _=>rfl,λb _=>a.less b⟩ (λ_ _=>rfl)⟩
 |dead=>exact Im
theorem DY.drop(a:Drop c m H H' μ μ'){tmps:Array Value}{ρ:List Entry}(h:DY w H μ tmps ρ):DY w H' μ' tmps (ρ.map λe=>{e with sv:=e.sv.uf2 c m}):=by
 intro t e b;rw[So (f:=λ(e:Entry)=>{e with sv:=e.sv.uf2 c m}) (λ_=>rfl),In]at b;obtain⟨d,g,rfl⟩:=b;have:=h t d g;unfold CK at this⊢;simp only;split at this
 .exact c43 a this
 .exact⟨λi=>c43 a (this.1 i),this.2⟩
end
def nilB:SV->Bool
 |.con (.slice none 0 0)=>true
 |_=>false
def lz:Nat->List SV->List SV
 |_,[]=>[]
 |t,s::r=>match nilB s with
  |true=>.osl t::lz (t+1) r
  |false=>s::lz t r
def Oa:List SV->Nat
 | []=>0
 |s::r=>match nilB s with
  |true=>Oa r+1
  |false=>Oa r
theorem c01:∀(t:Nat) (l:List SV),(lz t l).length=l.length
 |_,[]=>rfl
 |t,s::r=>by simp only[lz];split<;>simp[c01]
theorem d1b:∀(t:Nat) (l:List SV) (i:Nat) (s:SV),(lz t l)[i]?=some s->(∃j,s=.osl j/\t<=j/\j<t+Oa l/\l[i]?=some (.con (.slice none 0 0)))\/l[i]?=some s
 |_,[],i,s,h=>by simp[lz]at h
 |t,x::r,i,s,h=>by
  simp only[lz]at h;split at h
  .rename_i a;have hx:x=.con (.slice none 0 0):=by
    unfold nilB at a;split at a
    .rfl
    .cases a
   have b:Oa (x::r)=Oa r+1:=by simp only[Oa,a]
   match i with
   |0=>simp at h;exact .inl ⟨t,h.symm,Ir _,Dj,E4⟩
   |i+1=>
    rcases d1b (t+1) r i s Dr with⟨j,c,d,e,h4⟩|h4
    .exact .inl ⟨j,c,Dj,Dj,F0⟩
    .exact .inr F0
  .rename_i a;have b:Oa (x::r)=Oa r:=by simp only[Oa,a]
   match i with
   |0=>exact .inr h
   |i+1=>
    rcases d1b t r i s Dr with⟨j,c,d,e,h4⟩|h4
    .exact .inl ⟨j,c,d,Dj,F0⟩
    .exact .inr F0
def b4m(E:Env)(st:St)(T:TypeId)(g sk h:SV):Option (Prop×St):=match g with
 |.omp a=>match st.own[a]? with
  |some (.pmap K k c BH)=>match h with
   |.own j 0=>match st.own[k]?,st.own[j]? with
    |some (.fam f d n none F),some (.cells i b)=>match E.P.underlying T with
     |some (.map _ _)=>if E.kt T=some K/\f=i/\Oa b=d.length/\(lz 0 b).all SV.memc=true/\b.all SV.pure=true/\j≠k/\a≠k/\a≠j/\E.ak k=false/\E.ak j=false then
      (VJ K sk).map λq=>(True,⟨st.ρ.map λe=>{e with sv:=e.sv.uf2 j 0},
        (((st.own.map (Blk.uf j 0)).set k (.fam f d (n+1) none (λx=>if x=n then⟨lz 0 b,d.map λ_=>(0,λ_=>[])⟩else F x))).set j .dead).set a (.pmap K k (Io c q) (λp=>if p=q then n else BH p))⟩)
      else none
     |_=>none
    |_,_=>none
   |_=>none
  |_=>none
 |_=>none
section
variable{E:Env}{B0:Nat}{X A:Nat->Prop}{w0:World}{nt:Nat}{st:St}{a:Act}{w:World}{μ:Mu}
theorem b60(hE:EnvOK E)(h:SD E B0 X A w0 nt st a w μ){T:TypeId}{m i x:SV}{vm vi vx:Value}{pre:Prop}{Y:St}(hm:D w (held A μ) μ m vm)(hi:D w (held A μ) μ i vi)(hx:D w (held A μ) μ x vx)(C:b4m E st T m i x=some (pre,Y)):
 ∃w' μ',(Instr.mapUpdate T vm vi vx).run E.P w=.ok () w'/\SD E B0 X A w0 nt Y a w' μ':=by
 unfold b4m at C;split at C;rotate_left
 .cases C
 rename_i S;split at C;rotate_left
 .cases C
 rename_i K k Z BH S7;split at C;rotate_left
 .cases C
 rename_i j;split at C;rotate_left
 .cases C
 rename_i Tf Ts n F Tc cs hk hj;split at C;rotate_left
 .cases C
 rename_i ky elem hT;split at C;rotate_left
 .cases C
 rename_i I;obtain⟨tc,rfl,hnil,s5,qi,P5,zb,hj0j,pe,Za⟩:=I;simp only[Hx]at C;obtain⟨q,hq,rfl,rfl⟩:=C;obtain⟨ky',elem',qe,jz⟩:=hE.kt T K tc;rw[hT]at qe;cases qe;obtain⟨rfl,mf⟩:=b16 hq hi;cases hm with
 |omp f=>
 cases hx with
 |own d=>
 rename_i b;obtain⟨bl,e,bc⟩:=h.own.blk _ _ f;rw[S7]at e;cases e;obtain⟨⟨ps,M,hμk⟩,r,g,e1,qd,hD⟩:=bc;cases e1;obtain⟨bl,e,bc⟩:=h.own.blk _ _ hμk;rw[hk]at e;cases e;obtain⟨ps',qs',e1,cq,_⟩:=bc;obtain⟨rfl,rfl⟩:=Nd e1;simp only[Option.map_none]at cq;obtain⟨bl,e,bc⟩:=h.own.blk _ _ d;rw[hj]at e;cases e;obtain⟨b',vs,e1,hh,hl,d9,hd⟩:=bc;cases e1;have hv:(Value.pointer (some ⟨b,0,none⟩))=HD false [.pointer (some ⟨b,0,none⟩)]:=rfl;obtain⟨o,bn,tf⟩:=b2g (w:=w) hv hT jz qd mf;have b6:=qd.lt;have kg:k<st.own.length:=(Ij.1 hk).1;have kq:j<st.own.length:=(Ij.1 hj).1;have hj0lt:S<st.own.length:=(Ij.1 S7).1;let B:List Value:=.pointer (some ⟨b,0,none⟩)::Ts.map λ_=>Value.slice none 0 0
 let μ':Mu:=λy=>if y=k then some (BD (ps++[.pointer (some ⟨b,0,none⟩)]) (M++[B]))else if y=j then none else μ y
 have m1:μ' k=some (BD (ps++[.pointer (some ⟨b,0,none⟩)]) (M++[B])):=by simp[μ']
 have m2:μ' j=none:=by simp[μ',P5]
 have m3:∀y,y≠k->y≠j->μ' y=μ y:=λy N O=>by simp[μ',N,O]
 have bg:∀{y x},μ' y=some x->(y=k/\x=BD (ps++[.pointer (some ⟨b,0,none⟩)]) (M++[B]))\/(y≠k/\y≠j/\μ y=some x):=by
  intro y x hy;by_cases e1:y=k
  .exact D1
  .by_cases G:y=j
   .subst G;rw[m2]at hy;cases hy
   .rw[m3 y e1 G]at hy;exact .inr ⟨e1,G,hy⟩
 have kr:∀(Q:Nat) (u:Value) (c:Nat),B[Q]?=some u->EP u=some c->Q=0/\c=b:=by
  intro Q u c N O;match Q with
  |0=>simp[B]at N;subst N;simp[EP]at O;exact⟨rfl,O.symm⟩
  |Q+1=>
   simp only[B,Kn,I2]at N;obtain⟨_,_,rfl⟩:=N;rw[Vb]at O;cases O
 have cm:∀{i' j' J u c},M[i']?=some J->J[j']?=some u->EP u=some c->CA (BD ps M) c:=λg1 l L=>MT.2 ⟨_,_,Ik g1,Ik l,L⟩;have H:∀{y x c},μ' y=some x->CA x c->(y=k/\CA (BD ps M) c)\/(y=k/\c=b)\/(y≠k/\y≠j/\μ y=some x):=by
  intro y x c hy hx;rcases bg hy with⟨rfl,rfl⟩|V
  .obtain⟨J,u,g1,l,L⟩:=MT.1 hx;rcases Jd.1 g1 with g1|g1
   .exact .inl ⟨rfl,MT.2 ⟨J,u,g1,l,L⟩⟩
   .simp only[J6]at g1;subst g1;obtain⟨Q,Zb⟩:=K5.1 l;exact .inr (.inl ⟨rfl,(kr Q u c Zb L).2⟩)
  .exact .inr (.inr V)
 have U:CA (.pointer (some ⟨b,0,none⟩)) b:=c3s.2 rfl;have b9:∀c,held A μ' c->held A μ c:=by
  rintro c (I|⟨y,x,hy,hx⟩)
  .exact .inl I
  .rcases H hy hx with⟨_,N⟩|⟨_,rfl⟩|⟨_,_,V⟩
   .exact .inr ⟨k,_,hμk,N⟩
   .exact .inr ⟨j,_,d,U⟩
   .exact .inr ⟨y,x,V,hx⟩
 have s9:CA (.map (some r)) r:=d0d.2 rfl;have bv:Keeps w (LO w r o) (held A μ) (held A μ) μ μ:=⟨Fa,λc _ I=>Rf (λe=>I (by subst e;exact .inr ⟨S,_,f,s9⟩)),λ_ _ h=>h,λ_ _ h=>h⟩
 have de:Drop j 0 (held A μ) (held A μ') μ μ':=by
  refine⟨b9,λy x hy hx P0=> ?_,λy ps2 qs2 hy hx=> ?_⟩
  .have e1:y≠j:=λe=>by subst e;simp[DQ]at hy
   have G:y≠k:=λe=>Hb;rw[m3 y G e1];exact hx
  .have e1:y≠j:=λe=>by subst e;simp[DQ]at hy
   by_cases G:y=k
   .subst G;rw[hμk]at hx;obtain⟨rfl,rfl⟩:=Nd (Jj hx);exact⟨_,_,m1,λi p hp=>by rw[It (Ij.1 hp).1];exact hp⟩
   .exact⟨ps2,qs2,(m3 y G e1).trans hx,λ_ _ h=>h⟩
 have hB:=(h.own.rng S _ r f s9).2.2;have S8:∀y x,y≠S->μ y=some x->∀c,CA x c->(LO w r o).heap[c]?=w.heap[c]?:=λy x hy hx c I=>Rf (λe=>by subst e;exact hy (h.own.inj y S x _ _ hx f I s9))
 have hd2:∀s v,s.pure=true->D w (held A μ) μ s v->D (LO w r o) (held A μ') μ' s v:=λs v hp hs=>GU b9 (hs.keep bv) hp;refine⟨_,μ',bn,⟨λy x hy=> ?_,λy y' x x' c hy W hx cw=> ?_,λy x c hy hx=> ?_,λc I=>by rw[Us];exact h.own.bnd c I⟩,h.fr.trans ⟨rfl,rfl,rfl,λ_=>Ir _,Fa,λi hi hX=>Rf (λe=>by subst e;rcases hB with hb|hb;omega;exact hX hb)⟩,
  by rw[Us];exact h.base,λg s hg=>⟨(h.glo g s hg).1,hd2 _ _ (h.glo g s hg).1 (h.glo g s hg).2⟩,h.dfr,h.size,(h.env.keep bv).drop de,λy hy=> ?_,λy x hx=> ?_⟩
 .rcases bg hy with⟨rfl,rfl⟩|⟨ze,hyj,W⟩
  .refine⟨.fam Tf Ts (n+1) none (λx=>if x=n then⟨lz 0 cs,Ts.map λ_=>(0,λ_=>[])⟩else F x),by rw[Iw zb,Iw P5,Jq (by simpa using kg)],_,_,rfl,⟨by simp[cq.pl],by simp[cq.ql],λi1 j1 i2 j2 R J u1 u2 c g1 l L g4 g5 g6=> ?_,λi1 dq=> ?_⟩,λi c e=>Ds⟩
   .have at':∀{i us},(M++[B])[i]?=some us->M[i]?=some us/\i<M.length\/i=M.length/\us=B:=by
     intro i us hi;by_cases b6:i<M.length
     .rw[It b6]at hi;exact .inl ⟨hi,b6⟩
     .rw[Iz Dj]at hi;match br:i-M.length,hi with
      |0,hi=>simp at hi;exact .inr ⟨Dj,hi.symm⟩
      |z+1,hi=>simp at hi
    rcases at' g1 with⟨k1,_⟩|⟨e1,rfl⟩<;>rcases at' g4 with⟨k4,_⟩|⟨G,rfl⟩
    .exact cq.nd i1 j1 i2 j2 R J u1 u2 c k1 l L k4 g5 g6
    .have:=(kr j2 u2 c g5 g6).2;subst this;exact absurd (h.own.inj y j _ _ c hμk d (cm k1 l L) U) (Ne.symm P5)
    .have:=(kr j1 u1 c l L).2;subst this;exact absurd (h.own.inj y j _ _ c hμk d (cm k4 g5 g6) U) (Ne.symm P5)
    .exact⟨Dj,(kr j1 u1 c l L).1.trans (kr j2 u2 c g5 g6).1.symm⟩
   .by_cases fe:i1<n
    .obtain⟨b1,R,g1,l,L⟩:=cq.mem i1 fe;refine⟨b1,R,by rw[It (by rw[cq.pl];exact fe)];exact g1,by rw[It (by rw[cq.ql];exact fe)];exact l,.inr ⟨Dm,?_⟩⟩;rcases L with⟨L,_⟩|⟨_,us3,e3,g4⟩
     .cases L
     .refine⟨us3,e3,?_⟩;rw[Ii Dj];refine g4.keep ⟨Fa,λc _ I=>Rf (λe=>I (by subst e;exact .inr ⟨S,_,f,s9⟩)),λc _=>b9 c⟩ (λu c hu vz=>S8 y _ (Ne.symm zb) hμk c (MT.2 ⟨R,u,Ik l,?_,vz⟩));subst e3;rcases hu with rfl|hu
      .simp
      .simp[hu]
    .have:i1=n:=Dj;subst this;refine⟨b,B,Hs,by rw[Iz (by rw[cq.ql];exact Ir _),cq.ql,Ka];rfl,.inr ⟨Dm,_,rfl,?_⟩⟩;rw[Ih rfl];refine⟨⟨b,vs,rfl,(S8 j _ (Ne.symm hj0j) d b U).trans hh,by rw[hl,c01],d9,λi s v hs hv=> ?_⟩,s5,Dm,Dm,λt tt rr u N O V=> ?_⟩
     .rcases d1b 0 cs i s hs with⟨Q,rfl,_,Zb,gh⟩|gh
      .have:=hd i _ v gh hv;cases this;have hjj':Q<Ts.length:=by rw[<-hnil];omega
       exact .osl (n:=0) (m:=0) (a:=none) (by simp[WM,Ig hjj'])
      .exact GU b9 ((hd i s v gh hv).keep bv) (Iq.1 qi s (Ik gh))
     .simp only[I2]at O V;obtain⟨_,_,rfl⟩:=O;obtain⟨_,_,rfl⟩:=V;exact⟨none,0,rfl,Ir _,Eu,.inl rfl,λi hi=>absurd hi (Ja _),.inl rfl⟩
  .obtain⟨bl,e,hb⟩:=h.own.blk y x W;have hylt:y<st.own.length:=(Ij.1 e).1;by_cases ey:y=S
   .subst ey;rw[S7]at e;cases e;rw[f]at W;cases W;refine⟨.pmap K k (Io Z q) (λp=>if p=q then n else BH p),by rw[Jq (by simpa using hylt)],⟨_,_,m1⟩,r,_,rfl,tf,λp hp=> ?_⟩;by_cases ep:p=q
    .refine⟨.pointer (some ⟨b,0,none⟩),by simp[ep],?_⟩;simp only[ep,Jv];refine .fp ?_;simp only[Jv];exact⟨_,_,b,m1,Hs,rfl⟩
    .have t6:Z p=true:=Gh;obtain⟨v,e,gn⟩:=hD p t6;refine⟨v,by simp[ep,e],?_⟩;simp only[ep,if_false];exact Vl de (gn.keep bv) (by simp[SV.ment0,DQ];omega)
   .refine⟨bl.uf j 0,by rw[Iw (Ne.symm ey),Iw (Ne.symm hyj),Iw (Ne.symm ze),Jb,e];rfl,?_⟩;exact(hb.keep bv (λc I=>S8 y x ey W c I)).drop de
 .rcases H hy hx with⟨e1,g1⟩|⟨e1,g1⟩|⟨e1,e1',g1⟩<;>rcases H W cw with⟨G,l⟩|⟨G,l⟩|⟨G,e2',l⟩
  .omega
  .omega
  .exact absurd (h.own.inj y' k _ _ c l hμk cw g1) G
  .omega
  .omega
  .subst g1;exact absurd (h.own.inj y' j _ _ c l d cw U) e2'
  .exact absurd (h.own.inj y k _ _ c g1 hμk hx l) e1
  .subst l;exact absurd (h.own.inj y j _ _ c g1 d hx U) e1'
  .exact h.own.inj y y' x x' c g1 l hx cw
 .rw[Us];rcases H hy hx with⟨e1,g1⟩|⟨e1,g1⟩|⟨e1,e1',g1⟩
  .exact h.own.rng k _ c hμk g1
  .subst g1;exact h.own.rng j _ c d U
  .exact h.own.rng y x c g1 hx
 .simp only[K4,Jp]at hy;rw[m3 y Dj Dj];exact h.fresh y hy
 .have e1:y≠k:=λe=>Gi;have G:y≠j:=λe=>by subst e;rw[Env.an_ak hx]at Za;cases Za
  rw[m3 y e1 G];exact h.anc y x hx
end
def SV.fz0(s:SV)(k:Nat)(t:SV):SV:=match s with
 |.osl j=>if j=k then t else .osl j
 |s=>s.kill0 [k]
def SV.fz1(s:SV)(k:Nat)(t:SV):SV:=match s with
 |.agg a=>.agg (a.map λs=>s.fz0 k t)
 |s=>s.fz0 k t
def SV.fz2(s:SV)(k:Nat)(t:SV):SV:=match s with
 |.tup a=>.tup (a.map λs=>s.fz1 k t)
 |s=>s.fz1 k t
def Blk.fz(b:Blk)(k:Nat)(t:SV):Blk:=match b with
 |.cells T d=>.cells T (d.map λs=>s.fz0 k t)
 |.pmap K j a BH=>if j=k then .dead else .pmap K j a BH
 |.rowh T e n f c i u=>.rowh T e n f c i (u.map λs=>s.fz0 k t)
 |b=>b
def Mu.drop(k:Nat)(μ:Mu):Mu:=λj=>if j=k then none else μ j
section
variable{w:World}{H H':Nat->Prop}{μ μ':Mu}{k:Nat}{t:SV}
theorem Xt(a:Keeps' [k] w w H H' μ μ')(b:∀v,μ k=some v->D w H' μ' t v){s:SV}{v:Value}(h:D w H μ s v):D w H' μ' (s.fz0 k t) v:=by
 unfold SV.fz0;split
 .rename_i j;split
  .rename_i e;subst e;cases h with
   |osl h=>exact b _ h
  .rename_i e;cases h with
   |osl h=>exact .osl (a.own _ _ Ey h)
 .exact Vx a h
theorem b74(a:Keeps' [k] w w H H' μ μ')(b:∀v,μ k=some v->D w H' μ' t v){s:SV}{v:Value}(h:D w H μ s v):D w H' μ' (s.fz1 k t) v:=by
 unfold SV.fz1;split
 .cases h with
  |agg c hl d=>
   refine .agg c Dx (λi s v hs e=> ?_);simp only[I2]at hs;obtain⟨f,g,rfl⟩:=hs;exact Xt a b (d i f v g e)
 .exact Xt a b h
theorem b6p(a:Keeps' [k] w w H H' μ μ')(b:∀v,μ k=some v->D w H' μ' t v){s:SV}{v:Value}(h:D w H μ s v):D w H' μ' (s.fz2 k t) v:=by
 unfold SV.fz2;split
 .cases h with
  |tup c hl d=>
   refine .tup c Dx (λi s v hs e=> ?_);simp only[I2]at hs;obtain⟨f,g,rfl⟩:=hs;exact b74 a b (d i f v g e)
 .exact b74 a b h
theorem CT.fz(a:Keeps' [k] w w H H' μ μ')(l:∀v,μ k=some v->D w H' μ' t v){x:Value}{bl:Blk}(h:CT w H μ x bl):CT w H' μ' x (bl.fz k t):=by
 cases bl with
 |cells T cs=>
  obtain⟨b,y,rfl,z,hl,A,d⟩:=h;refine⟨b,y,rfl,z,Dx,A,λi s v hs B=> ?_⟩;simp only[I2]at hs;obtain⟨C,E,rfl⟩:=hs;exact Xt a l (d i C v E B)
 |row T m n f c=>
  have:=CT.change a (λ_ _=>rfl) h;exact this
 |map K ag j val=>
  have:=CT.change a (λ_ _=>rfl) h;exact this
 |fam T Ts n bt F=>
  have:=CT.change a (λ_ _=>rfl) h;exact this
 |pmap K k' j BH=>
  simp only[Blk.fz];split
  .exact Im
  rename_i o;obtain⟨⟨G,I,J⟩,r,g,rfl,L,d⟩:=h;refine⟨⟨G,I,a.own _ _ (by simpa using o) J⟩,r,g,rfl,L,λq M=> ?_⟩;obtain⟨p,e,h⟩:=d q M;exact⟨p,e,b2c a (by simpa using o) h⟩
 |rowh T m n f c i u=>exact Mt.to (λs=>s.fz0 k t) (λ_ _=>rfl) (λs v N h=>JF a h N) (λs v h=>Xt a l h) h
 |pool T m n d al ln ct=>
  have:=CT.change a (λ_ _=>rfl) h;exact this
 |dead=>exact Im
end
theorem c9i{w:World}{H H':Nat->Prop}{μ μ':Mu}{x:Value}{T:TypeId}{sz n:Nat}{f:Nat->List SV}{c:Option Nat}(l:∀b,H' b->H b)(hx:∀b,CA x b->¬H' b)(h:CT w H μ x (.row T sz n f c)):D w H' μ' (.sl sz n f c) x:=by
 obtain⟨a,m,rfl,hn,hm,hc,hl,q⟩:=h;rcases q with rfl|⟨b,o,e,r,rfl,g,ho,h1,t⟩
 .exact Cg
 .have u:¬H' b:=hx b (JC r);have k:∀i j,i<n->j<sz->o+i*sz+j<e.length:=λi j hi d=>by
   have:=KV hi d;have:n*sz<=m*sz:=Js _ hn;omega
  refine .sl _ b o m (λi j=>e.getD (o+i*sz+j) undef) hn hm hc (λ_=>⟨rfl,u,Nz g,λi j hi d=> ?_⟩) hl (λi j s hi hs=> ?_)
  .have:=k i j hi d;rw[Qw g,Ig this];simp only[I6,Ig this];exact Ch
  .have d:j<sz:=Fs;have:=k i j hi d;simp only[I6,Ig this];exact FV l (t i j s _ hi hs (Ig this)) (Iq.1 (hl i hi).2 s (Ik hs))
def St.fz(E:Env)(k:Nat)(st:St):St:=match st.own[k]? with
 |some (.row _ a n f c)=>if E.ak k then st else⟨st.ρ.map λe=>{e with sv:=e.sv.fz2 k (.sl a n f c)},st.own.map λb=>b.fz k (.sl a n f c)⟩
 |_=>st
section
variable{E:Env}{B0:Nat}{X A:Nat->Prop}{w0:World}{nt:Nat}{st:St}{a:Act}{w:World}{μ:Mu}
theorem c6w(h:SD E B0 X A w0 nt st a w μ)(k:Nat):∃μ',SD E B0 X A w0 nt (st.fz E k) a w μ':=by
 unfold St.fz;split;rotate_left
 .exact⟨μ,h⟩
 rename_i T q n f c F;split
 .exact⟨μ,h⟩
 rename_i H;have r:∀b,held A (μ.drop k) b->held A μ b:=by
  intro b d;rcases d with d|⟨j,x,hj,hx⟩
  .exact .inl d
  .unfold Mu.drop at hj;split at hj
   .cases hj
   .exact .inr ⟨j,x,hj,hx⟩
 have u:Keeps' [k] w w (held A μ) (held A (μ.drop k)) μ (μ.drop k):=⟨Ir _,λ_ _ _=>rfl,λb _ d=>r b d,λj x hj hx=>by simp only[J6]at hj;simp[Mu.drop,hj,hx],λj x hj d=>by simp only[J6]at hj;subst hj;obtain⟨y,e,i⟩:=h.own.blk _ _ d;rw[F]at e;cases e;obtain⟨a,m,I,_⟩:=i;exact .inl ⟨_,_,_,I⟩⟩
 have z:∀v,μ k=some v->D w (held A (μ.drop k)) (μ.drop k) (.sl q n f c) v:=by
  intro v B;obtain⟨y,e,i⟩:=h.own.blk _ _ B;rw[F]at e;cases e;refine c9i r (λb d C=> ?_) i;rcases C with C|⟨j,x,hj,hx⟩
  .exact(h.own.rng _ _ b B d).2.1 C
  .unfold Mu.drop at hj;split at hj
   .cases hj
   .rename_i J;exact J (h.own.inj j k x v b hj B hx d)
 have o:∀{j x},μ.drop k j=some x->μ j=some x:=by
  intro j x hj;unfold Mu.drop at hj;split at hj
  .cases hj
  .exact hj
 refine⟨μ.drop k,⟨λj x hj=> ?_,λj K x L b hj M=>h.own.inj j K x L b (o hj) (o M),λj x b hj=>h.own.rng j x b (o hj),h.own.bnd⟩,h.fr,h.base,λg s l=>⟨(h.glo g s l).1,FV r (h.glo g s l).2 (h.glo g s l).1⟩,h.dfr,h.size,λt e G=> ?_,λj hj=> ?_,λj x hx=> ?_⟩
 .obtain⟨y,e,i⟩:=h.own.blk j x (o hj);exact⟨y.fz k (.sl q n f c),by simp[e],i.fz u z⟩
 .rw[So (f:=λ(e:Entry)=>{e with sv:=e.sv.fz2 k (.sl q n f c)}) (λ_=>rfl),In]at G;obtain⟨N,O,rfl⟩:=G;have:=h.env t N O;unfold CK at this⊢;simp only;split at this
  .exact b6p u z this
  .exact⟨λl=>b6p u z (this.1 l),this.2⟩
 .have:=h.fresh j E8;simp[Mu.drop,this]
 .have:=h.anc j x hx;unfold Mu.drop;rw[Ii (λe=>H (by rw[<-e];exact Env.an_ak hx))];exact this
end
def f3k(E:Env)(own:List Blk)(ρ:Operand->Option SV)(i:Op):Option (Prop×SV×List Blk):=
 match i with
 |.call c=>match c.callee,c.args.toList with
  |.value f,x::a=>match ρ f,ρ x with
   |some (.clo b []),some (.osl k)=>match E.X b,own[k]? with
    |some e,some (.row T d n g j)=>(a.mapM ρ).bind λh=>if h.any SV.hasOsl then none else(h.mapM (SV.roA own)).bind λl=>(e T d n g l).map λr=>(r.1,if r.2.2 then .osl k else .tup [],own.set k (.row T d n r.2.1 j))
    |_,_=>none
   |_,_=>none
  |_,_=>none
 |_=>none
def SO(k j:Nat):Option Nat:=if j=k then none else some j
def d1s(E:Env)(own:List Blk)(ρ:Operand->Option SV)(h:Op):Option (Prop×SV×List Blk):=
 match h with
 |.call c=>match c.callee,c.args.toList with
  |.value f,x::a=>match ρ f,ρ x with
   |some (.clo b []),some (.osl k)=>match E.X b,own[k]? with
    |some e,some (.row T d n g j)=>(a.mapM ρ).bind λl=>((l.map (SV.ren1 (SO k))).mapM (SV.roA (own.map (Blk.ren (SO k))))).bind λm=>
     (e T d n g m).map λr=>(r.1/\∀i,i<n->(r.2.1 i).all SV.flat0=true,if r.2.2 then .osl k else .tup [],own.set k (.row T d n r.2.1 j))
    |_,_=>none
   |_,_=>none
  |_,_=>none
 |_=>none
def f0w(E:Env)(st:St)(o:Oper):Option (Prop×St):=match o.op with
 |.mapUpdate T m k x|.insert T m k x=>match BZ E st.ρ none m with
  |some a=>match BZ E st.ρ none k with
   |some sk=>match BZ E st.ρ none x with
    |some b=>match o.dst with
     |none=>b4m E st T a sk b
     |some _=>none
    |none=>none
   |none=>none
  |none=>none
 |_=>none
def c3i(E:Env)(own:List Blk)(ρ:Operand->Option SV)(b:Op):Option (Prop×Nat×List Blk):=match b with
 |.slice T x none (some c) (some d)=>match ρ x,ρ c,ρ d with
  |some (.osl k),some (.int _ h),some (.int _ m)=>match own[k]? with
   |some (.row g a n f _)=>match NG E.P T with
    |some e=>if CH E.P e=some a/\E.ak k=false then some (0<=h/\h<=m/\m<=n,k,(own.map (Blk.kill [k])).set k (.row g a h.toNat f (some m.toNat)))else none
    |none=>none
   |_=>none
  |_,_,_=>none
 |_=>none
def d2n(E:Env)(ρ:Operand->Option SV)(b:Op):Option (Prop×Blk):=match b with
 |.call {callee:=.builtin .append,args:=⟨[x,y]⟩,argTypes:=⟨[T,U]⟩}=>match NG E.P T,E.P.underlying U with
  |some e,some (.int _)=>match ρ x,ρ y with
   |some (.sl _ n _ (some c)),some (.int .i64 m)=>match E.P.info? e,Nb E.P e with
    |some a,some z=>if z.length=a.size/\0<a.size/\z.all SV.isCell=true/\z.all SV.pure=true then
     some ((n=0/\c=0)/\0<m/\m<=9223372036854775807/\m.toNat*a.bytes<=140737488355328,.row e a.size m.toNat (λ_=>z) none)else none
    |_,_=>none
   |_,_=>none
  |_,_=>none
 |_=>none
def WS(E:Env)(nt:Nat)(ops:Array Oper)(st:St)(o:Oper):Option (Prop×St):=
 match o.guard with
 |some _=>d7t E nt ops st o
 |none=>match f3k E st.own (BZ E st.ρ none) o.op with
  |some r=>if IP nt o.dst then some (r.1,⟨JI o.dst none r.2.1 st.ρ,r.2.2⟩)else none
  |none=>match d1s E st.own (BZ E st.ρ none) o.op with
   |some r=>if IP nt o.dst then some (r.1,⟨JI o.dst none r.2.1 st.ρ,r.2.2⟩)else none
   |none=>match b7j E st.own (BZ E st.ρ none) o.op with
    |some r=>if IP nt o.dst then some (r.1,⟨JI o.dst none r.2.1 (Si r.2.2.2 st.ρ),r.2.2.1⟩)else none
    |none=>match f0w E st o with
     |some r=>some r
     |none=>match c3i E st.own (BZ E st.ρ none) o.op with
      |some r=>if IP nt o.dst then some (r.1,⟨JI o.dst none (.osl r.2.1) (Si [r.2.1] st.ρ),r.2.2⟩)else none
      |none=>match d2n E (BZ E st.ρ none) o.op with
       |some r=>if IP nt o.dst then some (r.1,⟨JI o.dst none (.osl st.own.length) st.ρ,st.own++[r.2]⟩)else none
       |none=>d7t E nt ops st o
def f1q:SV->List Nat
 |.osl k=>[k]
 |.agg a=>a.filterMap λs=>match s with|.osl k=>some k|_=>none
 |_=>[]
def VL(E:Env)(o:Oper)(st:St):List Operand->St
 | []=>st
 |.tmp t::r=>VL E o (match BW t st.ρ with
  |some e=>(f1q e.sv).foldl (λst k=>st.fz E k) st
  |none=>st) r
 |_::r=>VL E o st r
def d76(E:Env)(nt:Nat)(ops:Array Oper)(st:St)(o:Oper):Option (Prop×St):=
 match o.dst with
 |none=>WS E nt ops st o
 |some d=>match E.fz d with
  |true=>WS E nt ops (VL E o st o.op.operands.toList) o
  |false=>WS E nt ops st o
section
variable{E:Env}{B0:Nat}{X A:Nat->Prop}{w0:World}{nt:Nat}{st:St}{a:Act}{w:World}{μ:Mu}
theorem d0c(ks:List Nat):∀{st:St} {μ:Mu},SD E B0 X A w0 nt st a w μ->∃μ',SD E B0 X A w0 nt (ks.foldl (λst k=>st.fz E k) st) a w μ':=by
 induction ks with
 |nil=>intro st μ h;exact⟨μ,h⟩
 |cons k ks b=>intro st μ h;obtain⟨μ',c⟩:=c6w h k;exact b c
theorem c1z(o:Oper):∀(l:List Operand) {st:St} {μ:Mu},SD E B0 X A w0 nt st a w μ->∃μ',SD E B0 X A w0 nt (VL E o st l) a w μ':=by
 intro l;induction l with
 |nil=>intro st μ h;exact⟨μ,h⟩
 |cons x l b=>
  intro st μ h;cases x with
  |tmp t=>
   simp only[VL];split
   .obtain⟨μ',c⟩:=d0c (f1q _) h;exact b c
   .exact b h
  |const _=>exact b h
  |global _=>exact b h
  |func _=>exact b h
end
theorem CT.row_mono{w:World}{H H':Nat->Prop}{μ μ':Mu}{x:Value}{T:TypeId}{sz n:Nat}{f:Nat->List SV}{c:Option Nat}(g:∀b,H' b->H b)(h:CT w H μ x (.row T sz n f c)):CT w H' μ' x (.row T sz n f c):=by
 obtain⟨a,m,rfl,k,l,p,d,h⟩:=h;refine⟨a,m,rfl,k,l,p,d,?_⟩;rcases h with h|⟨b,o,q,r,rfl,t,u,y,z⟩
 .exact .inl h
 .exact .inr ⟨b,o,q,r,rfl,t,u,y,λi j s v e hs A=>FV g (z i j s v e hs A) (Iq.1 (d i e).2 s (Ik hs))⟩
theorem d8g{B0:Nat}{X A:Nat->Prop}{w:World}{μ:Mu}{own:List Blk}{xs a:List SV}{vs:List Value}(f:Own B0 X A w μ own)(c:DL w (held A μ) μ xs vs)(g:xs.mapM (SV.roA own)=some a)(j:xs.any SV.hasOsl=false){H':Nat->Prop}(k:∀b,H' b->held A μ b):DL w H' BM a vs:=by obtain⟨l1,l⟩:=MY g;refine⟨by rw[c.1,l1],λi s v hs m=> ?_⟩;have b6:i<xs.length:=Fw;obtain⟨y,d,e⟩:=l i _ (Ig b6);rw[hs]at d;cases d;refine VI f (λ_ _ h=>h) k (c.2 i _ v (Ig b6) m) e (λh=> ?_);have:xs.any SV.hasOsl=true:=Ha;rw[j]at this;cases this
section
variable{E:Env}{B0:Nat}{X A:Nat->Prop}{w0:World}{nt:Nat}{st:St}{a:Act}{w:World}{μ:Mu}
theorem d2y(hC:FU E)(h:SD E B0 X A w0 nt st a w μ){o:Oper}{G:Prop}{s:SV}{own':List Blk}(m:f3k E st.own (BZ E st.ρ none) o.op=some (G,s,own'))(hp:G):
 ∃f B,(execOp a.eval o).run E.P w=.ok (.enter f B) w/\own'.length=st.own.length/\Calls E.P f B w λe K=>∃v,e=.returned v/\D K (held A μ) μ s v/\After B0 X A w K μ μ own':=by
 unfold f3k at m;split at m;rotate_left
 .cases m
 rename_i c cx;split at m;rotate_left
 .cases m
 rename_i f x C hf ku;split at m;rotate_left
 .cases m
 rename_i H k I J;split at m;rotate_left
 .cases m
 rename_i e T sz n g cp hX hk;simp only[Ip]at m;obtain⟨xs,jy,m⟩:=m;split at m
 .cases m
 rename_i j6;simp only[Ip,Hx]at m;obtain⟨ys,pw,⟨p,g',r⟩,hr,rfl,rfl,rfl⟩:=m;have F:=h.opds (g:=none) (λq b e=>Ds);obtain⟨⟨fn,L,h2,h3⟩,hS⟩:=hC.2.1 H e hX;have V:=F _ _ I;generalize rj:a.eval f=vf at V;have O:=F _ _ J;generalize tm:a.eval x=v at O;cases V with
 |clo Q fh pg=>
 have zf:Q=[]:=L9.1 fh;subst zf;have l:μ k=some v:=by cases O with|osl h=>exact h
 have P6:=SQ (a:=a) F jy;obtain⟨W,M,bc⟩:=h.own.blk k v l;rw[hk]at M;cases M;let Y:Nat->Prop:=λb=>held A μ b/\¬CA v b
 have N:∀b,held Y (FR v) b↔held A μ b:=by
  intro b;constructor
  .rintro(d|⟨j,y,u,hy⟩)
   .exact d.1
   .unfold FR at u;split at u
    .cases u;exact .inr ⟨k,v,l,hy⟩
    .cases u
  .intro d;by_cases e:CA v b
   .exact .inr ⟨0,v,rfl,e⟩
   .exact .inl ⟨d,e⟩
 have te:∀b,held A μ b->b<w.heap.size:=λb d=>by
  rcases d with d|⟨k,x,hk,hx⟩
  .exact h.own.bnd b d
  .exact(h.own.rng k x b hk hx).1
 refine⟨H,(v::C.map a.eval).toArray,?_,Dm,?_⟩
 .have hm:c.args.map a.eval=(v::C.map a.eval).toArray:=by
   apply Array.ext';rw[Array.toList_map,ku];simp[tm]
  simp only[execOp,cx,resolve,hf,rj,Deferred.ofValue,hm,Hz,invoke,callFunc,run_program,L,h2,I4,h3];simp
 .refine(hS Y w v T sz n g cp ys _ p g' r (λb d=>te b d.1) (λb d=>⟨(h.own.rng k v b l d).1,λR=>R.2 d⟩) (λq t S=>⟨(h.glo q t S).1,FV (λb d=>(N b).1 d) (h.glo q t S).2 (h.glo q t S).1⟩) (bc.row_mono (λb d=>(N b).1 d))
   (d8g h.own P6 pw (by simpa using j6) (λb d=>(N b).1 d)) hr hp).mono ?_
  rintro e K ⟨U,rfl,r1,r2,hB,z⟩;have Z:Keeps w K (held A μ) (held A μ) μ μ:=⟨z.size,λb d R=>z.block b d (λe=>R (.inr ⟨k,v,l,e⟩)),λ_ _ h=>h,λ_ _ h=>h⟩
  refine⟨U,rfl,?_,⟨λj y u=> ?_,h.own.inj,λj y b u d=> ?_,λb d=>Jf (h.own.bnd b d) z.size⟩,⟨z.os,z.tape,z.output,z.drawn,z.size,λi hi hx=> ?_⟩,Z⟩
  .cases r with
   |true=>rw[r1 rfl];rw[Ih rfl];cases O with|osl h=>exact .osl h
   |false=>rw[r2 rfl];exact .tup [] rfl (λi s v h=>Dv)
  .by_cases e:j=k
   .subst e;rw[l]at u;cases u;exact⟨_,Hd,hB.row_mono (λb d=>(N b).2 d)⟩
   .obtain⟨W,M,d⟩:=h.own.blk j y u;refine⟨W,by rw[Iw (Ne.symm e)];exact M,d.keep Z (λb d=>z.block b (h.own.rng j y b u d).1 (λe2=>e (h.own.inj j k y v b u l d e2)))⟩
  .obtain⟨q1,q2⟩:=h.own.rng j y b u d;exact⟨Jf q1 z.size,q2⟩
  .refine z.block i (Jf hi h.base) (λe=> ?_);rcases(h.own.rng k v i l e).2.2 with L|L
   .omega
   .exact hx L
theorem CT.row_flat{w:World}{H H':Nat->Prop}{μ μ':Mu}{x:Value}{T:TypeId}{sz n:Nat}{f:Nat->List SV}{c:Option Nat}(e:∀i,i<n->(f i).all SV.flat0=true)(h:CT w H μ x (.row T sz n f c)):CT w H' μ' x (.row T sz n f c):=by
 obtain⟨a,m,rfl,g,k,l,p,h⟩:=h;refine⟨a,m,rfl,g,k,l,p,?_⟩;rcases h with h|⟨b,o,q,r,rfl,t,u,y,z⟩
 .exact .inl h
 .exact .inr ⟨b,o,q,r,rfl,t,u,y,λi j s v d hs A=>VR (Iq.1 (e i d) s (Ik hs)) (z i j s v d hs A)⟩
theorem c83(hC:FU E)(h:SD E B0 X A w0 nt st a w μ){o:Oper}{M:Prop}{s:SV}{own':List Blk}(C:d1s E st.own (BZ E st.ρ none) o.op=some (M,s,own'))(Y:M):
 ∃f I,(execOp a.eval o).run E.P w=.ok (.enter f I) w/\own'.length=st.own.length/\Calls E.P f I w λe R=>∃v,e=.returned v/\D R (held A μ) μ s v/\After B0 X A w R μ μ own':=by
 unfold d1s at C;split at C;rotate_left
 .cases C
 rename_i c cx;split at C;rotate_left
 .cases C
 rename_i f x F hf ku;split at C;rotate_left
 .cases C
 rename_i N k O Q;split at C;rotate_left
 .cases C
 rename_i e T sz n g cp hX hk;simp only[Ip,Hx]at C;obtain⟨xs,jy,ys,pw,⟨p,g',r⟩,hr,rfl,rfl,rfl⟩:=C;obtain⟨Y,J⟩:=Y;have K:=h.opds (g:=none) (λq b e=>Ds);obtain⟨⟨fn,S,h2,h3⟩,hS⟩:=hC.2.1 N e hX;have fi:=K _ _ O;generalize rj:a.eval f=vf at fi;have Z:=K _ _ Q;generalize tm:a.eval x=v at Z;cases fi with
 |clo cvs fh pg=>
 have zf:cvs=[]:=L9.1 fh;subst zf;have l:μ k=some v:=by cases Z with|osl h=>exact h
 have P6:=SQ (a:=a) K jy;obtain⟨U,V,bc⟩:=h.own.blk k v l;rw[hk]at V;cases V;let W:Nat->Prop:=λb=>A b\/CA v b
 let B:Mu:=μ.drop k
 have z:∀{j x},B j=some x->j≠k/\μ j=some x:=by
  intro j x m;simp only[B,Mu.drop]at m;split at m
  .cases m
  .rename_i ba;exact⟨ba,m⟩
 have P8:∀j i x,SO k j=some i->μ j=some x->B i=some x:=by
  intro j i x m hx;unfold SO at m;split at m
  .cases m
  .rename_i ba;cases m;simp[B,Mu.drop,ba,hx]
 have S9:∀b,held W B b↔held A μ b:=by
  intro b;constructor
  .rintro((d|d)|⟨j,y,m,H⟩)
   .exact .inl d
   .exact .inr ⟨k,v,l,d⟩
   .exact .inr ⟨j,y,(z m).2,H⟩
  .rintro(d|⟨j,y,m,H⟩)
   .exact .inl (.inl d)
   .by_cases e:j=k
    .subst e;rw[l]at m;cases m;exact .inl (.inr H)
    .exact .inr ⟨j,y,by simp[B,Mu.drop,e,m],H⟩
 have T5:Own B0 X W w B (st.own.map (Blk.ren (SO k))):=by
  refine⟨λj y m=> ?_,λj j' y y' b m bm=>h.own.inj j j' y y' b (z m).2 (z bm).2,λj y b m d=> ?_,λb d=> ?_⟩
  .obtain⟨U,L,d⟩:=h.own.blk j y (z m).2;exact⟨U.ren (SO k),by simp[L],d.ren (λb d=>(S9 b).1 d) P8⟩
  .obtain⟨r1,r2,r3⟩:=h.own.rng j y b (z m).2 d;refine⟨r1,?_,r3⟩;rintro(hA|hv)
   .exact r2 hA
   .exact(z m).1 (h.own.inj j k y v b (z m).2 l d hv)
  .rcases d with d|d
   .exact h.own.bnd b d
   .exact(h.own.rng k v b l d).1
 have Zc:∀b,held A (FR v) b↔W b:=by
  intro b;constructor
  .rintro(d|⟨j,y,m,H⟩)
   .exact .inl d
   .unfold FR at m;split at m
    .cases m;exact .inr H
    .cases m
  .rintro(d|d)
   .exact .inl d
   .exact .inr ⟨0,v,rfl,d⟩
 have bj:∀b,held A (FR v) b->held A μ b:=λb d=>by
  rcases(Zc b).1 d with d|d
  .exact .inl d
  .exact .inr ⟨k,v,l,d⟩
 have hDy:DL w (held A (FR v)) BM ys (F.map a.eval):=by
  obtain⟨l1,l2⟩:=MY pw;refine⟨by rw[P6.1,l1];simp,λi s u hs hu=> ?_⟩;have b6:i<(xs.map (SV.ren1 (SO k))).length:=Fw;obtain⟨y,H,L⟩:=l2 i _ (Ig b6);rw[hs]at H;cases H;have fe:i<xs.length:=by simpa using b6
  have ji:=b12 (w:=w) (H':=held W B) (μ':=B) (λb d=>(S9 b).1 d) P8 (P6.2 i _ u (Ig fe) hu);simp only[Lh]at L;exact VI T5 (λ_ _ h=>h) (λb d=>(S9 b).2 (bj b d)) ji L (λ_ b d=>(Zc b).1 d)
 have te:∀b,held A μ b->b<w.heap.size:=λb d=>by
  rcases d with d|⟨k,x,hk,hx⟩
  .exact h.own.bnd b d
  .exact(h.own.rng k x b hk hx).1
 refine⟨N,(v::F.map a.eval).toArray,?_,Dm,?_⟩
 .have hm:c.args.map a.eval=(v::F.map a.eval).toArray:=by
   apply Array.ext';rw[Array.toList_map,ku];simp[tm]
  simp only[execOp,cx,resolve,hf,rj,Deferred.ofValue,hm,Hz,invoke,callFunc,run_program,S,h2,I4,h3];simp
 .refine(hS A w v T sz n g cp ys _ p g' r h.own.bnd (λb d=>⟨(h.own.rng k v b l d).1,(h.own.rng k v b l d).2.1⟩) (λq t hg=>⟨(h.glo q t hg).1,FV bj (h.glo q t hg).2 (h.glo q t hg).1⟩) (bc.row_mono bj) hDy hr Y).mono ?_;rintro e R ⟨res,rfl,r1,r2,hB,G⟩;have bv:Keeps w R (held A μ) (held A μ) μ μ:=⟨G.size,λb d hh=>G.block b d (λe=>hh (.inr ⟨k,v,l,e⟩)),λ_ _ h=>h,λ_ _ h=>h⟩
  refine⟨res,rfl,?_,⟨λj y m=> ?_,h.own.inj,λj y b m d=> ?_,λb d=>Jf (h.own.bnd b d) G.size⟩,⟨G.os,G.tape,G.output,G.drawn,G.size,λi hi hx=> ?_⟩,bv⟩
  .cases r with
   |true=>rw[r1 rfl];rw[Ih rfl];cases Z with|osl h=>exact .osl h
   |false=>rw[r2 rfl];exact .tup [] rfl (λi s v h=>Dv)
  .by_cases e:j=k
   .subst e;rw[l]at m;cases m;exact⟨_,Hd,hB.row_flat J⟩
   .obtain⟨U,V,d⟩:=h.own.blk j y m;refine⟨U,by rw[Iw (Ne.symm e)];exact V,d.keep bv (λb d=>G.block b (h.own.rng j y b m d).1 (λL=>e (h.own.inj j k y v b m l d L)))⟩
  .obtain⟨q1,q2⟩:=h.own.rng j y b m d;exact⟨Jf q1 G.size,q2⟩
  .refine G.block i (Jf hi h.base) (λe=> ?_);rcases(h.own.rng k v i l e).2.2 with S|S
   .omega
   .exact hx S
theorem b2r{P:Program}{w:World}{T U ty e:TypeId}{k:IntKind}{b:TypeInfo}{c:Value}(d:P.underlying T=some (.slice e))(f:P.underlying U=some (.int k))(hi:P.info? e=some b)(g:b.zero=some c){a:Option Addr}{m:Nat}(i:0<m)(qy:m<=9223372036854775807)(j:m*b.bytes<=140737488355328)(l:0<b.size):
 (Builtin.append_ #[T,U] ty #[.slice a 0 0,.int .i64 m]).run P w=.ok (.slice (some ⟨w.heap.size,0,none⟩) m (grownCap w m 0 e)) (w.drew.alloc (.cells (Builtin.zeroCells c.cells m++Builtin.zeroCells c.cells (grownCap w m 0 e-m)) e)):=by
 have n:IntKind.i64.wrap (m:Int)=m:=PE Er;have o:m≠0:=Dj;have q:¬((m:Int)<0):=Dj;have r:¬(281474976710656<(m:Int)*(b.bytes:Int)):=by have:((m*b.bytes:Nat):Int)=(m:Int)*b.bytes:=Dm;omega
 have s:¬(9223372036854775807<(m:Int)):=Dj;have h48:=growslice_fits (need:=m) (old:=0) Dj j;have t:¬(281474976710656<Builtin.nextslicecap m 0*b.bytes):=Dj;have u:b.size≠0:=Dj;have v:(Builtin.firstCells b.size 0 (.slice a 0 0)).run P w.drew=.ok #[] w.drew:=by cases a<;>simp[Builtin.firstCells,loadCells,loadCellsFrom]
 simp[Builtin.append_,Jh d,Jh f,sizeOf,typeInfo,zeroValue,hi,g,asInt,asIntOf,n,q,r,s,t,o,Question.forced,v,newRow,grownCap];intro h;have:=Nat.mul_pos i l;omega
theorem b62(z:Array Value)(n i:Nat)(u:Value)(h:(Builtin.zeroCells z n).toList[i]?=some u):z.toList[i%z.size]?=some u:=by
 unfold Builtin.zeroCells at h;rw[Array.toList_map,Jb,In]at h;obtain⟨j,b,rfl⟩:=h;rw[Array.toList_range]at b;obtain⟨a,e⟩:=Ij.1 b;simp only[List.length_range]at a;simp only[List.getElem_range]at e;subst e;have d:0<z.size:=by
  rcases Jz z.size with e|e
  .rw[e]at a;simp at a
  .exact e
 have c:=Mr i d;rw[Kd,Kt z (i%z.size) c,Lk c]
theorem c8q{B0:Nat}{X A:Nat->Prop}{w:World}{μ:Mu}{own k:List Blk}{a:Act}{ρ:Operand->Option SV}(Z:Own B0 X A w μ k)(N:B0<=w.heap.size)(hk:μ own.length=none)(B:∀(x:Operand) (s:SV),ρ x=some s->D w (held A μ) μ s (a.eval x)){o:Oper}{C:Prop}{b:Blk}
 (d:d2n E ρ o.op=some (C,b)) (hp:C) (cz:k[own.length]?=some b):
 ∃r I μ',(execOp a.eval o).run E.P w=.ok (.value r) I/\After B0 X A w I μ μ' k/\(∀j,j≠own.length->μ' j=μ j)/\D I (held A μ') μ' (.osl own.length) r:=by
 unfold d2n at d;split at d;rotate_left
 .cases d
 rename_i x y T U cx;split at d;rotate_left
 .cases d
 rename_i e ki hT hU;split at d;rotate_left
 .cases d
 rename_i sz n f c m hx hy;split at d;rotate_left
 .cases d
 rename_i t z O hz;split at d;rotate_left
 .cases d
 rename_i u;obtain⟨rz,g9,me,J⟩:=u;simp only[Hy]at d;obtain⟨rfl,rfl⟩:=d;obtain⟨⟨rfl,rfl⟩,Zd,vu,rn⟩:=hp;have ht:=On hT;obtain⟨inf',l,F,m5,rfl,Q⟩:=Qm (w:=w) (H:=held A μ) (μ:=μ) hz;rw[O]at F;cases F;have G:l.cells.size=t.size:=Ew;have R:∀v∈l.cells.toList,v.oneCell'=true:=Qr Q me;have S:=B _ _ hx;have V:=B _ _ hy;generalize tm:a.eval x=vx at S;generalize K:a.eval y=vy at V;cases V;obtain⟨L,rfl⟩:∃L,vx=.slice L 0 0:=by
  cases S with
  |sl a b o m g hm hx u b7 hl hd=>
   rcases u with u|u
   .cases u
   .cases u;exact⟨_,rfl⟩
 have M:((m.toNat:Nat):Int)=m:=Dj;have W:=b2r (P:=E.P) (w:=w) (T:=T) (U:=U) (ty:=o.type) (a:=L) (m:=m.toNat) ht hU O m5 Dj Dj rn g9;rw[M]at W;have fx:=grownCap_ge w m.toNat 0 e;have fy:=Mj w m.toNat 0 e Em;have mz:∀v∈(Builtin.zeroCells l.cells m.toNat++Builtin.zeroCells l.cells (grownCap w m.toNat 0 e-m.toNat)).toList,v.oneCell'=true:=λv q=>by
  rw[Array.toList_append,Jd]at q;rcases q with q|q
  .exact Tr R _ v q
  .exact Tr R _ v q
 have Y:(Builtin.zeroCells l.cells m.toNat).toList.length=m.toNat*t.size:=by simp[Mq,G]
 obtain⟨o1,o2⟩:=SJ (x:=.slice (some ⟨w.heap.size,0,none⟩) m.toNat (grownCap w m.toNat 0 e)) Z.drew N hk cz (.cells (Builtin.zeroCells l.cells m.toNat++Builtin.zeroCells l.cells (grownCap w m.toNat 0 e-m.toNat)) e) (λb hb=>(Wb Dj).1 hb) (λμ' _ bv=>by
  refine⟨_,_,rfl,fx,fy,.inl rfl,λi _=>⟨by simpa using G,J⟩,.inr ⟨w.heap.size,0,(Builtin.zeroCells l.cells m.toNat++Builtin.zeroCells l.cells (grownCap w m.toNat 0 e-m.toNat)).toList,Dj,rfl,Ly w.drew _,?_,mz,λi j s v F hs q=> ?_⟩⟩
  .rw[Array.toList_append,Jm,Y,Kk,Mq,G,<-L3,Ki,show m.toNat+(grownCap w m.toNat 0 e-m.toNat)=grownCap w m.toNat 0 e from Dj];exact Bw
  .have hj:j<t.size:=by
    have:=(Ij.1 hs).1;rw[rz]at this;exact this
   have b6:=KV F hj;rw[Array.toList_append,Ki,It (by rw[Y];exact b6)]at q;have:=b62 _ _ _ _ q;rw[G,Lp,Nat.mul_add_mod,Nat.mod_eq_of_lt hj]at this;exact((Q.2 j s v hs this).keep Keeps.drew).keep bv)
 have bn:(execOp a.eval o).run E.P w=.ok (.value (.slice (some ⟨w.heap.size,0,none⟩) m.toNat (grownCap w m.toNat 0 e))) (w.drew.alloc (.cells (Builtin.zeroCells l.cells m.toNat++Builtin.zeroCells l.cells (grownCap w m.toNat 0 e-m.toNat)) e)):=by simp only[execOp,cx,resolve,Hz,invoke,builtin];rw[show (⟨[x,y]⟩:Array Operand).map a.eval= #[a.eval x,a.eval y]from Dm,tm,K,W];simp
 exact⟨_,_,_,bn,⟨o1,Fr.drew.trans (Fr.alloc _ N),o2.size,o2.block,o2.less,o2.own⟩,λj hj=>E7,.osl E3⟩
theorem c7z{B0:Nat}{X A:Nat->Prop}{w:World}{μ:Mu}{own:List Blk}{a:Act}{ρ:Operand->Option SV}(K:Own B0 X A w μ own)(hB:B0<=w.heap.size)(t:∀(x:Operand) (s:SV),ρ x=some s->D w (held A μ) μ s (a.eval x)){o:Oper}{y:Prop}{k:Nat}{own':List Blk}
 (d:c3i E own ρ o.op=some (y,k,own')) (hp:y):
 ∃r μ',(execOp a.eval o).run E.P w=.ok (.value r) w/\D w (held A μ') μ' (.osl k) r/\After' [k] B0 X A w w μ μ' own'/\own'.length=own.length/\(E.ak k=false/\k<own.length)/\∀j,j≠k->μ' j=μ j:=by
 unfold c3i at d;split at d;rotate_left
 .cases d
 rename_i T x C mx cx;split at d;rotate_left
 .cases d
 rename_i k' F h G m hx z hm;split at d;rotate_left
 .cases d
 rename_i e' sz n f c L;split at d;rotate_left
 .cases d
 rename_i e hT;split at d;rotate_left
 .cases d
 rename_i hc;obtain⟨M,pe⟩:=hc;simp only[Hy]at d;obtain⟨rfl,rfl,rfl⟩:=d;obtain⟨h0,h1,h2⟩:=hp;have N:=On hT;have jx:E.P.elem T=e:=by simp[Program.elem,N]
 simp only[CH,In]at M;obtain⟨u,bq,rfl⟩:=M;have O:=t _ _ hx;have Q:=t _ _ z;have R:=t _ _ hm;generalize tm:a.eval x=v at O;generalize H:a.eval C=vh at Q;generalize I:a.eval mx=vm at R;cases Q;cases R;cases O with
 |osl S=>
  obtain⟨bl,B,bc⟩:=K.blk _ _ S;rw[L]at B;cases B;obtain⟨l,g,J,fj,gz,fw,U,V⟩:=bc;cases J;rename_i g l;have B:=Kr (P:=E.P) w G m g .slice3Acap Dj Dj;have J:=Kr (P:=E.P) w F h m.toNat .slice3B Dj Dj;have jg:(Instr.sliceBounds true n g none (some (.int F h)) (some (.int G m))).run E.P w=.ok (0,h.toNat,m.toNat) w:=by simp[Instr.sliceBounds,B,J]
  refine⟨.slice l h.toNat m.toNat,μ.set k' (.slice l h.toNat m.toNat),?_,.osl E3,b0y K hB S ⟨_,_,_,rfl⟩ ⟨_,_,_,rfl⟩ ?_ (Ir _) (λ_ _ _=>rfl) rfl rfl rfl (λbv=> ?_),Dm,⟨pe,(Ij.1 L).1⟩,λj hj=>E7⟩
  .have hr:(Instr.sliceAt T (.slice l n g) none (some (.int F h)) (some (.int G m))).run E.P w=.ok (.slice l h.toNat m.toNat) w:=by
    have wu:l.map (·.add (0*u.size))=l:=by cases l<;>simp[Addr.add_zero']
    simp only[Instr.sliceAt,Hz,Jh N,Instr.slice,jg,GX bq,wu,ite_self,Nat.sub_zero]
   simp[execOp,cx,tm,H,I,hr]
  .rcases V with h3|⟨b,o,W,Y,rfl,z,ho,Z,hd⟩
   .left;rw[show m.toNat=0 from Dj];exact Vb
   .by_cases q:m.toNat=0
    .left;rw[q];exact Vb
    .right;left;exact(Mo Dj).trans (Mo Y).symm
  .refine⟨l,m.toNat,rfl,Dj,Dj,.inr rfl,λi C=>U i Dj,?_⟩;rcases V with h3|⟨b,o,W,Y,rfl,z,ho,Z,hd⟩
   .left;omega
   .by_cases q:m.toNat=0
    .left;exact q
    .right;have:m.toNat*u.size<=g*u.size:=Js _ Dj;exact⟨b,o,W,Dj,rfl,z,Dj,Z,λi j s v C hs hv=>JF bv (hd i j s v Dj hs hv) (Iq.1 (U i Dj).2 s (Ik hs))⟩
theorem b1i(M:EnvOK E)(I:FU E)(h:SD E B0 X A w0 nt st a w μ){ops:Array Oper}{o:Oper}{t:Prop}{z:St}(c:WS E nt ops st o=some (t,z))(B:t)
 {K:Act->World->Prop} {Q:Exit->Act->World->Prop} (C:∀S n μ',SD E B0 X A w0 nt z S n μ'->K S n):
 if Region.wanted o (yielded ops a.tmps)then o.wp E.P a w K Q else K (a.put o.dst undef) w:=by
 unfold WS at c;split at c
 .exact b79 M I h c B C
 rename_i jv;have J:∀{p:Prop} {s:SV} {own':List Blk},p=t->IP nt o.dst=true->(⟨JI o.dst none s st.ρ,own'⟩:St)=z->(∃f u,(execOp a.eval o).run E.P w=.ok (.enter f u) w/\own'.length=st.own.length/\Calls E.P f u w λe n=>∃v,e=.returned v/\D n (held A μ) μ s v/\After B0 X A w n μ μ own')->o.wp E.P a w K Q:=by rintro p s own' rfl y rfl ⟨f,u,F,N,V⟩;unfold Oper.wp;rw[F];refine V.mono ?_;rintro e n ⟨v,rfl,L,i⟩;exact C _ n μ (h.put i.own i.fr (LU i.keeps h.glo) (h.env.keep i.keeps) (λk O=>h.fresh k (by rw[<-N];exact O)) h.anc y L)
 split at c
 .rename_i r d;obtain⟨p,s,own'⟩:=r;split at c;rotate_left
  .cases c
  rename_i y;simp only[Hy]at c;rw[Ih Eh];exact J c.1 y c.2 (d2y I h d (by rw[show p=t from c.1];exact B))
 .split at c
  .rename_i r d;obtain⟨p,s,own'⟩:=r;split at c;rotate_left
   .cases c
   rename_i y;simp only[Hy]at c;rw[Ih Eh];exact J c.1 y c.2 (c83 I h d (by rw[show p=t from c.1];exact B))
  .split at c
   .rename_i r d;obtain⟨p,s,own',kills⟩:=r;split at c;rotate_left
    .cases c
    rename_i y;simp only[Hy]at c;obtain⟨rfl,rfl⟩:=c;rw[Ih Eh];exact c8p I h (by rw[<-b7d];exact d) B y C
   .split at c
    .rename_i r d;cases c;rw[Ih Eh];have l:=h.opds (g:=none) (λq b e=>Ds);unfold f0w at d;split at d;rotate_left 2
     .cases d
     all_goals
      rename_i T m k x W;split at d;rotate_left
      .cases d
      rename_i sm Y;split at d;rotate_left
      .cases d
      rename_i sk Z;split at d;rotate_left
      .cases d
      rename_i sx ny;split at d;rotate_left
      .cases d
      rename_i p9;obtain⟨n,μ',G,R⟩:=b60 M h (l _ _ Y) (l _ _ Z) (l _ _ ny) d;have F:(execOp a.eval o).run E.P w=.ok .skip n:=by simp[execOp,W,G]
      unfold Oper.wp;rw[F];show K (a.put o.dst undef) n;rw[p9];exact C _ n μ' R
    .split at c
     .rename_i r d;obtain⟨p,k,own'⟩:=r;split at c;rotate_left
      .cases c
      rename_i y;simp only[Hy]at c;obtain⟨rfl,rfl⟩:=c;rw[Ih Eh];have l:=h.opds (g:=none) (λq b e=>Ds);obtain⟨r,μ',F,L,i,N,U,H⟩:=c7z h.own h.base l d B;unfold Oper.wp;rw[F];show K (a.put o.dst r) w;refine C _ w μ' ?_;refine h.put i.own i.fr (b1a i.keeps h.glo) (h.env.change i.keeps) (λj hj=> ?_) (λj x hx=>i.keeps.own _ _ (λe=> ?_) (h.anc j x hx)) y L
      .rw[N]at hj;rw[H j Dj];exact C1
      .simp only[J6]at e;subst e;rw[Env.an_ak hx]at U;cases U.1
     .split at c
      .rename_i r d;obtain⟨p,b⟩:=r;split at c;rotate_left
       .cases c
       rename_i y;simp only[Hy]at c;obtain⟨rfl,rfl⟩:=c;rw[Ih Eh];have l:=h.opds (g:=none) (λq b e=>Ds);obtain⟨r,n,μ',F,i,H,L⟩:=c8q (h.own.more (own':=st.own++[b]) Ua) h.base (h.fresh _ (Ir _)) l d B Dm;unfold Oper.wp;rw[F];show K (a.put o.dst r) n;refine C _ n μ' ?_;refine h.put i.own i.fr (LU i.keeps h.glo) (h.env.keep i.keeps) (λk O=> ?_) (λj x hx=>i.keeps.own _ _ (h.anc j x hx)) y L;simp only[I8]at O;rw[H k Dj];exact h.fresh k Dj
      .exact b79 M I h c B C
theorem b0m(e:EnvOK E)(f:FU E)(h:SD E B0 X A w0 nt st a w μ){ops:Array Oper}{o:Oper}{c:Prop}{d:St}(b:d76 E nt ops st o=some (c,d))(g:c)
 {K:Act->World->Prop} {Q:Exit->Act->World->Prop} (i:∀j k μ',SD E B0 X A w0 nt d j k μ'->K j k):
 if Region.wanted o (yielded ops a.tmps)then o.wp E.P a w K Q else K (a.put o.dst undef) w:=by
 unfold d76 at b;split at b
 .exact b1i e f h b g i
 .split at b
  .obtain⟨μ',l⟩:=c1z o o.op.operands.toList h;exact b1i e f l b g i
  .exact b1i e f h b g i
end
theorem Tb{b:List (List Value)}{i a j:Nat}{us:List Value}{u:Value}(h:(b.set i [])[a]?=some us)(c:us[j]?=some u):a≠i/\b[a]?=some us:=by
 by_cases e:i=a
 .subst e;by_cases hl:i<b.length
  .rw[Jq hl]at h;cases h;simp at c
  .rw[Km Dx]at h;cases h
 .rw[Iw e]at h;exact⟨Ne.symm e,h⟩
structure SlH where
 a:Option Addr
 n:Nat
 m:Nat
def SlH.val(s:SlH):Value:=.slice s.a s.n s.m
def Oo(p:SlH->Prop):Prop:=∀v,p v
theorem Oo.mk{p:SlH->Prop}(h:∀v,p v):Oo p:=h
theorem Oo.out{p:SlH->Prop}(h:Oo p):∀v,p v:=h
attribute [irreducible] Oo
theorem Rc{ps:List Value}{e:List (List Value)}{b:Nat}:CA (BD ps e) b↔∃(i j:Nat) (us:List Value) (u:Value),e[i]?=some us/\us[j]?=some u/\EP u=some b:=by
 rw[MT];constructor
 .rintro⟨us,u,a,c,d⟩;obtain⟨i,f⟩:=K5.1 a;obtain⟨j,g⟩:=K5.1 c;exact⟨i,j,us,u,f,g,d⟩
 .rintro⟨i,j,us,u,a,c,d⟩;exact⟨us,u,Ik a,Ik c,d⟩
def Wy(p a:Nat)(ρ:List Entry):Bool:=match BW a ρ with
 |some ⟨_,none,.fp true q _ _⟩=>decide (q=p)
 |_=>false
def d15(T:TypeId)(sz t:Nat)(st:St):Option St:=match BW t st.ρ with
 |some ⟨_,none,.own _ a⟩=>some ⟨⟨t,none,.fp true st.own.length 0 a⟩::st.ρ,st.own++[.pool T sz 0 (λ_=>undef) (λ_=>false) (λ_=>0) (λ_ _=>[])]⟩
 |_=>none
def SV.cv0(r:Nat)(v:Value)(s:SV):SV:=match s with
 |.osl j=>if j=r then .con v else .osl j
 |s=>s.uf0 r 0
def SV.cv1(r:Nat)(v:Value):SV->SV
 |.agg a=>.agg (a.map (SV.cv0 r v))
 |s=>s.cv0 r v
def SV.cv2(r:Nat)(v:Value):SV->SV
 |.tup a=>.tup (a.map (SV.cv1 r v))
 |s=>s.cv1 r v
def Blk.cv(r:Nat)(v:Value):Blk->Blk
 |.cells T a=>.cells T (a.map (SV.cv0 r v))
 |.rowh T d n f c i u=>.rowh T d n f c i (u.map (SV.cv0 r v))
 |b=>b.uf r 0
def b3m(E:Env)(t p c:Nat)(st:St):Option (Value->St):=match BW t st.ρ with
 |some ⟨_,none,.osl r⟩=>match st.own[r]?,st.own[p]? with
  |some (.row T b m g _),some (.pool d a k f h i j)=>if T=d/\b=a/\r≠p/\E.ak r=false/\E.ak p=false/\Wy p c st.ρ=true then
   some λv=>⟨st.ρ.map λe=>{e with sv:=e.sv.cv2 r v},((st.own.map (Blk.cv r v)).set p (.pool T b (k+1) (λx=>if x=k then v else f x) (λx=>decide (x=k)||h x) (λx=>if x=k then m else i x) (λx=>if x=k then g else j x))).set r .dead⟩
   else none
  |_,_=>none
 |_=>none
def b57(E:Env)(k j p t l:Nat)(st:St):Option (Prop×St):=match BW t st.ρ,st.own[k]?,st.own[p]? with
 |some ⟨_,none,.int _ i⟩,some (.row T o n f c),some (.pool b a m d e g h)=>if k≠p/\E.ak p=false/\Wy p l st.ρ=true then
  some (i.toNat<n/\i.toNat<m/\e i.toNat=true/\(f i.toNat).getD j .any=.con (d i.toNat),
   ⟨st.ρ,(st.own.set k (.rowh T o n f c i.toNat ((f i.toNat).set j (.osl st.own.length)))).set p (.pool b a m d (λx=> !decide (x=i.toNat)&&e x) g h)++[.row b a (g i.toNat) (h i.toNat) none]⟩)
  else none
 |_,_,_=>none
def b4n(E:Env)(k j p d:Nat)(st:St):Option (Prop×St):=match st.own[k]?,st.own[p]? with
 |some (.row T g n f c),some (.pool _ a m h b i l)=>if k≠p/\E.ak p=false/\Wy p d st.ρ=true then
  some (∀q,q<n->q<m->b q=true->(f q)[j]?=some (.con (h q)),
   ⟨st.ρ.map λe=>{e with sv:=e.sv.uf2 p 0},((st.own.map (Blk.uf p 0)).set k (.row T g n (λq=>if q<m/\b q=true then(f q).set j (.sl a (i q) (l q) none)else f q) c)).set p .dead⟩)
  else none
 |_,_=>none
section
variable{E:Env}{B0:Nat}{X A:Nat->Prop}{w0:World}{nt:Nat}{st:St}{a:Act}{w:World}{μ:Mu}
theorem b9w(h:SD E B0 X A w0 nt st a w μ){T:TypeId}{sz t:Nat}{m:St}(n:d15 T sz t st=some m):∃μ',SD E B0 X A w0 nt m a w μ':=by
 unfold d15 at n;split at n;rotate_left
 .cases n
 rename_i G k B H;simp only[J8]at n;subst n;have I:=LG H;simp only at I;subst I;have z:=h.env _ _ H;unfold CK at z;simp only at z;obtain⟨b,T6,O⟩:∃b,μ k=some (.pointer (some ⟨b,0,none⟩))/\a.tmps.getD G undef=.pointer (some ⟨b,B,none⟩):=by
  generalize a.tmps.getD G undef=vv at z;cases z with
  |own l=>exact⟨_,l,rfl⟩
 let f:List Value:=[.pointer (some ⟨b,0,none⟩)]
 have P:=h.fresh st.own.length (Ir _);have d:∀{j x},μ j=some x->μ.set st.own.length (BD f []) j=some x:=λ{j x} c=>by
  unfold Mu.set;split
  .rename_i e;rw[e,P]at c;cases c
  .exact c
 have o:∀{j x},μ.set st.own.length (BD f []) j=some x->(j=st.own.length/\x=BD f [])\/(j≠st.own.length/\μ j=some x):=by
  intro j x c;unfold Mu.set at c;split at c
  .exact .inl ⟨‹_›,(Jj c).symm⟩
  .exact .inr ⟨‹_›,c⟩
 have nohas:∀b,¬CA (BD f []) b:=λb r=>by obtain⟨Q,u,C,_⟩:=MT.1 r;simp at C
 have J:∀b,held A (μ.set st.own.length (BD f [])) b->held A μ b:=by
  rintro b (r|⟨j,x,c,hx⟩)
  .exact .inl r
  .rcases o c with⟨_,rfl⟩|⟨_,y⟩
   .exact C2
   .exact .inr ⟨j,x,y,hx⟩
 have K:∀s v,D w (held A μ) μ s v->D w (held A (μ.set st.own.length (BD f []))) (μ.set st.own.length (BD f [])) s v:=λs v h=>h.shift J (λj x c _=>d c) (λj f F c=>⟨f,F,d c,λ_ _ h=>h⟩);have R:=DY.shift K h.env;refine⟨_,⟨λj x c=> ?_,λj L x S b c y hx M=> ?_,λj x b c hx=> ?_,h.own.bnd⟩,h.fr,h.base,λg s N=>⟨(h.glo g s N).1,K _ _ (h.glo g s N).2⟩,h.dfr,h.size,λq e l=> ?_,λj c=> ?_,λj x hx=>d (h.anc j x hx)⟩
 .rcases o c with⟨rfl,rfl⟩|⟨ba,y⟩
  .exact⟨.pool T sz 0 (λ_=>undef) (λ_=>false) (λ_=>0) (λ_ _=>[]),by simp only[Iz (Ir _),Ka];rfl,f,[],rfl,rfl,λi j i' L Q us' u u' b C=>by simp at C,λi U=>absurd U (Ja _)⟩
  .obtain⟨V,e,r⟩:=h.own.blk j x y;have W:j<st.own.length:=(Ij.1 e).1;exact⟨V,by simp only[It W];exact e,r.shift J (λj x c _=>d c) (λj f F c=>⟨f,F,d c,λ_ _ h=>h⟩)⟩
 .rcases o c with⟨rfl,rfl⟩|⟨_,g1⟩<;>rcases o y with⟨rfl,rfl⟩|⟨_,Y⟩
  .rfl
  .exact C2
  .exact absurd M (nohas b)
  .exact h.own.inj j L x S b g1 Y hx M
 .rcases o c with⟨rfl,rfl⟩|⟨_,g1⟩
  .exact C2
  .exact h.own.rng j x b g1 hx
 .simp only[BW]at l;split at l
  .cases l;unfold CK;simp only;refine .fp ?_;rw[Ih rfl];exact⟨f,[],b,E3,rfl,O⟩
  .exact R q e l
 .simp only[I8]at c;unfold Mu.set;rw[Ii Dj];exact C1
theorem c26(h:SD E B0 X A w0 nt st a w μ){p j:Nat}(c:Wy p j st.ρ=true):∃e f,μ p=some (BD e f):=by
 unfold Wy at c;split at c
 .rename_i k q i o l;simp only[Is]at c;subst c;have d:=h.env _ _ l;unfold CK at d;simp only at d;generalize a.tmps.getD k undef=vv at d;cases d with
  |fp g=>
   rw[Ih rfl]at g;obtain⟨e,f,b,m,_⟩:=g;exact⟨e,f,m⟩
 .cases c
end
section
variable{w:World}{H H':Nat->Prop}{μ μ':Mu}{r:Nat}{v0:Value}
theorem b3t(a:Drop r 0 H H' μ μ')(b:∀x,μ r=some x->x=v0){s:SV}{v:Value}(h:D w H μ s v):D w H' μ' (s.cv0 r v0) v:=by
 unfold SV.cv0;split
 .rename_i j;split
  .rename_i e;subst e;cases h with
   |osl h=>rw[<-b _ h];exact .con
  .rename_i e;exact Vl a h (by simp[SV.ment0,DQ];omega)
 .exact Vd a h
theorem c48(a:Drop r 0 H H' μ μ')(b:∀x,μ r=some x->x=v0){s:SV}{v:Value}(h:D w H μ s v):D w H' μ' (s.cv1 r v0) v:=by
 unfold SV.cv1;split
 .cases h with
  |agg c hl d=>
   refine .agg c Dx (λi s v hs e=> ?_);simp only[I2]at hs;obtain⟨f,g,rfl⟩:=hs;exact b3t a b (d i f v g e)
 .exact b3t a b h
theorem c5p(a:Drop r 0 H H' μ μ')(b:∀x,μ r=some x->x=v0){s:SV}{v:Value}(h:D w H μ s v):D w H' μ' (s.cv2 r v0) v:=by
 unfold SV.cv2;split
 .cases h with
  |tup c hl d=>
   refine .tup c Dx (λi s v hs e=> ?_);simp only[I2]at hs;obtain⟨f,g,rfl⟩:=hs;exact c48 a b (d i f v g e)
 .exact c48 a b h
theorem CT.cv(a:Drop r 0 H H' μ μ')(c:∀x,μ r=some x->x=v0){x:Value}{bl:Blk}(h:CT w H μ x bl):CT w H' μ' x (bl.cv r v0):=by
 unfold Blk.cv;split
 .obtain⟨b,d,rfl,e,hl,f,g⟩:=h;refine⟨b,d,rfl,e,Dx,f,λi s v hs j=> ?_⟩;simp only[I2]at hs;obtain⟨k,l,rfl⟩:=hs;exact b3t a c (g i k v l j)
 .exact Mt.to (SV.cv0 r v0) (λ_ _=>rfl) (λs v m h=>GU a.less h m) (λs v h=>b3t a c h) h
 .exact h.drop a
theorem DY.cv(a:Drop r 0 H H' μ μ')(b:∀x,μ r=some x->x=v0){tmps:Array Value}{ρ:List Entry}(h:DY w H μ tmps ρ):DY w H' μ' tmps (ρ.map λe=>{e with sv:=e.sv.cv2 r v0}):=by
 intro t e c;rw[So (f:=λ(e:Entry)=>{e with sv:=e.sv.cv2 r v0}) (λ_=>rfl),In]at c;obtain⟨d,g,rfl⟩:=c;have:=h t d g;unfold CK at this⊢;simp only;split at this
 .exact c5p a b this
 .exact⟨λi=>c5p a b (this.1 i),this.2⟩
end
section
variable{E:Env}{B0:Nat}{X A:Nat->Prop}{w0:World}{nt:Nat}{st:St}{a:Act}{w:World}{μ:Mu}
theorem c6x{w:World}{H H':Nat->Prop}{μ μ':Mu}{x:Value}{T:TypeId}{sz n:Nat}{f:Nat->List SV}{c:Option Nat}(d:∀b,H' b->H b)(h:IA w H μ x T sz n f c):IA w H' μ' x T sz n f none:=by obtain⟨a,m,e,g,i,_,j,k⟩:=IA.shift (H':=H') (μ':=μ') (λs v l hs=>GU d hs l) h;exact⟨a,m,e,g,i,.inl rfl,j,k⟩
theorem b1h(h:SD E B0 X A w0 nt st a w μ){t p wt:Nat}{F:Value->St}(G:b3m E t p wt st=some F):∃(v:SlH) (μ':Mu),SD E B0 X A w0 nt (F v.val) a w μ':=by
 unfold b3m at G;split at G;rotate_left
 .cases G
 rename_i t' r fm;split at G;rotate_left
 .cases G
 rename_i T V m g W T' sz' k hd al ln ct Y hp;split at G;rotate_left
 .cases G
 rename_i hc;obtain⟨rfl,rfl,Z,Zg,gf,qj⟩:=hc;obtain⟨o,d,B⟩:=c26 h qj;simp only[J8]at G;subst G;have hrlt:r<st.own.length:=(Ij.1 Y).1;have qk:p<st.own.length:=(Ij.1 hp).1;have I:∃u,μ r=some u:=by
  have N:=h.env t _ fm;unfold CK at N;simp only at N;generalize a.tmps.getD t' undef=vv at N;cases N with
  |osl hq=>exact⟨_,hq⟩
 obtain⟨v,C⟩:=I;obtain⟨sv,T8⟩:∃sv:SlH,v=sv.val:=by obtain⟨O,e,J⟩:=h.own.blk _ _ C;rw[Y]at e;cases e;obtain⟨b,c,e,_⟩:=J;exact⟨⟨b,_,c⟩,e⟩
 refine⟨sv,?_⟩;rw[<-T8];have hP0:PoolOK w (held A μ) T V k hd al ln ct d:=by obtain⟨O,e,J⟩:=h.own.blk _ _ B;rw[hp]at e;cases e;obtain⟨ps1,qs1,f,J⟩:=J;obtain⟨rfl,rfl⟩:=Nd f;exact J
 let μ':Mu:=λj=>if j=p then some (BD o (d++[[v]]))else if j=r then none else μ j
 have hv:∀x,μ r=some x->x=v:=λx hx=>by rw[C]at hx;exact(Jj hx).symm
 have T9:∀z,μ p=some z->z=BD o d/\PoolOK w (held A μ) T V k hd al ln ct d:=λz hz=>by rw[B]at hz;exact⟨(Jj hz).symm,hP0⟩
 have bg:∀{j x},μ' j=some x->(j=p/\∃u,μ r=some u/\μ p=some (BD o d)/\x=BD o (d++[[u]]))\/(j≠p/\j≠r/\μ j=some x):=by
  intro j x hj;by_cases f:j=p
  .subst f;simp only[μ',Jv,J8]at hj;exact .inl ⟨rfl,v,C,B,hj.symm⟩
  .by_cases l:j=r
   .subst l;simp[μ',f]at hj
   .exact .inr ⟨f,l,by simpa[μ',f,l]using hj⟩
 have q:∀{j x b},μ' j=some x->CA x b->(j=p/\∃z,μ p=some z/\CA z b)\/(j=p/\∃z,μ r=some z/\CA z b)\/(j≠p/\j≠r/\μ j=some x):=by
  intro j x b hj hx;rcases bg hj with⟨rfl,u,g1,n,rfl⟩|h3
  .obtain⟨i,jj,K,u',f,l,e3⟩:=Rc.1 hx;by_cases y:i<d.length
   .rw[It y]at f;exact .inl ⟨rfl,_,n,Rc.2 ⟨i,jj,K,u',f,l,e3⟩⟩
   .rw[Iz Dj]at f;match br:i-d.length,f with
    |0,f=>
     simp at f;subst f;match jj,l with
     |0,l=>simp at l;subst l;exact .inr (.inl ⟨rfl,_,g1,.inl e3⟩)
     |z+1,l=>simp at l
    |z+1,f=>simp at f
  .exact .inr (.inr h3)
 have P:∀b,held A μ' b->held A μ b:=by
  rintro b (hb|⟨j,x,hj,hx⟩)
  .exact .inl hb
  .rcases q hj hx with⟨_,z,g1,n⟩|⟨_,z,g1,n⟩|⟨_,_,g1⟩
   .exact .inr ⟨p,z,g1,n⟩
   .exact .inr ⟨r,z,g1,n⟩
   .exact .inr ⟨j,x,g1,hx⟩
 have b7:∀u,μ r=some u->CT w (held A μ) μ u (.row T V m g W):=λu hu=>by obtain⟨O,e,J⟩:=h.own.blk _ _ hu;rw[Y]at e;cases e;exact J
 have de:Drop r 0 (held A μ) (held A μ') μ μ':=by
  refine⟨P,λj x hj hx P0=> ?_,λj ps qs hj hx=> ?_⟩
  .have f:j≠r:=λe=>Fx;have l:j≠p:=λe=>by subst e;exact P0 _ _ (T9 _ hx).1
   simp[μ',f,l,hx]
  .have f:j≠r:=λe=>Fx;by_cases l:j=p
   .subst l;obtain⟨H,Q⟩:=Nd (T9 _ hx).1;exact⟨o,d++[[v]],by simp[μ'],λ_ _ h=>by rw[<-H];exact h⟩
   .exact⟨ps,qs,by simp[μ',f,l,hx],λ_ _ h=>h⟩
 refine⟨μ',⟨λj x hj=> ?_,λj j' x x' b hj bm hx R=> ?_,λj x b hj hx=> ?_,h.own.bnd⟩,h.fr,h.base,λg s hg=>⟨(h.glo g s hg).1,GU P (h.glo g s hg).2 (h.glo g s hg).1⟩,h.dfr,h.size,h.env.cv de hv,λj hj=> ?_,λj x hx=> ?_⟩
 .rcases bg hj with⟨rfl,u,g1,n,rfl⟩|⟨f,l,g1⟩
  .obtain⟨_,L⟩:=T9 _ n;obtain rfl:v=u:=(hv _ g1).symm;refine⟨_,by rw[Iw Z,Jq (by simpa using qk)],?_⟩;refine⟨o,d++[[v]],rfl,by simp[L.ql],λi1 j1 i2 j2 us1 us2 u1 u2 b k1 k2 k3 k4 k5 k6=> ?_,λi y=> ?_⟩
   .have M:∀{i:Nat} {K:List Value},(d++[[v]])[i]?=some K->(d[i]?=some K)\/(i=d.length/\K=[v]):=by
     intro i K y;by_cases S:i<d.length
     .rw[It S]at y;exact .inl y
     .rw[Iz Dj]at y;match br:i-d.length,y with
      |0,y=>simp at y;exact .inr ⟨Dj,y.symm⟩
      |z+1,y=>simp at y
    have one:∀{j:Nat} {u:Value},[v][j]?=some u->u=v:=by
     intro j u hj;match j,hj with
     |0,hj=>simpa using hj.symm
     |z+1,hj=>simp at hj
    rcases M k1 with H|⟨H,rfl⟩<;>rcases M k4 with q4|⟨q4,rfl⟩
    .exact L.nd i1 j1 i2 j2 us1 us2 u1 u2 b H k2 k3 q4 k5 k6
    .have:=one k5;subst this;exact absurd (h.own.inj j r _ _ b n g1 (Rc.2 ⟨_,_,_,_,H,k2,k3⟩) (.inl k6)) (Ne.symm Z)
    .have:=one k2;subst this;exact absurd (h.own.inj j r _ _ b n g1 (Rc.2 ⟨_,_,_,_,q4,k5,k6⟩) (.inl k3)) (Ne.symm Z)
    .omega
   .by_cases U:i=k
    .subst U;refine .inr ⟨Dm,by rw[<-L.ql];simp,?_⟩;simp only[Jv];exact c6x P (b7 _ g1)
    .have zh:=L.keep (ps:=o) (H':=held A μ') ⟨Ir _,λ_ _ _=>rfl,λb _=>P b⟩ (λ_ _=>rfl);have S:i<d.length:=by rw[L.ql];omega
     rcases zh.mem i Dj with⟨H,Q⟩|⟨H,Q,q3⟩
     .exact .inl ⟨by simp[U,H],by rw[It S];exact Q⟩
     .refine .inr ⟨by simp[H],by rw[It S,Ii U];exact Q,?_⟩;simp only[Ii U];exact q3
  .obtain⟨O,e,hb⟩:=h.own.blk j x g1;exact⟨O.cv r v,by rw[Iw (Ne.symm l),Iw (Ne.symm f),Jb,e];rfl,hb.cv de hv⟩
 .rcases q hj hx with⟨f,z,g1,n⟩|⟨f,z,g1,n⟩|⟨f,e1',g1⟩<;>rcases q bm R with⟨l,z',k1,k2⟩|⟨l,z',k1,k2⟩|⟨l,e2',k1⟩
  .omega
  .omega
  .exact absurd (h.own.inj j' p x' z b k1 g1 R n) l
  .omega
  .omega
  .exact absurd (h.own.inj j' r x' z b k1 g1 R n) e2'
  .exact absurd (h.own.inj j p x z' b g1 k1 hx k2) f
  .exact absurd (h.own.inj j r x z' b g1 k1 hx k2) e1'
  .exact h.own.inj j j' x x' b g1 k1 hx R
 .rcases q hj hx with⟨_,z,g1,n⟩|⟨_,z,g1,n⟩|⟨_,_,g1⟩
  .exact h.own.rng p z b g1 n
  .exact h.own.rng r z b g1 n
  .exact h.own.rng j x b g1 hx
 .simp only[K4,Jp]at hj;have f:j≠p:=Dj;have l:j≠r:=Dj;simp[μ',f,l,h.fresh j hj]
 .have f:j≠p:=λe=>Gj;have l:j≠r:=λe=>by subst e;rw[Env.an_ak hx]at Zg;cases Zg
  simp[μ',f,l,h.anc j x hx]
theorem b5y(h:SD E B0 X A w0 nt st a w μ){k j p t wt:Nat}{V:Prop}{W:St}(N:b57 E k j p t wt st=some (V,W))(da:V):∃μ',SD E B0 X A w0 nt W a w μ':=by
 unfold b57 at N;split at N;rotate_left
 .cases N
 rename_i t' ki i T sz n f c T' O m G al ln ct fm hk hp;split at N;rotate_left
 .cases N
 rename_i hc;obtain⟨bv,gf,qj⟩:=hc;obtain⟨B,F,l⟩:=c26 h qj;simp only[Hy]at N;obtain⟨rfl,rfl⟩:=N;obtain⟨bh,Pd,V0,H⟩:=da;generalize i.toNat=i at*;have kg:k<st.own.length:=(Ij.1 hk).1;have qk:p<st.own.length:=(Ij.1 hp).1;let L:=st.own.length
 have V1:μ L=none:=h.fresh _ (Ir _);have dv:∃s,(f i)[j]?=some s/\s=.con (G i):=by
  cases hs:(f i)[j]? with
  |none=>rw[If,hs]at H;cases H
  |some s=>
   rw[If,hs,K2]at H;exact⟨_,rfl,H⟩
 obtain⟨s0,bu,rfl⟩:=dv;have jh:j<(f i).length:=(Ij.1 bu).1;have S:PoolOK w (held A μ) T' O m G al ln ct F:=by obtain⟨bl,e,bc⟩:=h.own.blk _ _ l;rw[hp]at e;cases e;obtain⟨ps1,qs1,y,bc⟩:=bc;obtain⟨rfl,rfl⟩:=Nd y;exact bc
 have bi:i<F.length:=by rw[S.ql];exact Pd
 have zi:F[i]?=some [G i]/\IA w (held A μ) (λ_=>none) (G i) T' O (ln i) (ct i) none:=by
  rcases S.mem i Pd with⟨g1,_⟩|⟨_,g2,r⟩
  .rw[V0]at g1;cases g1
  .exact⟨g2,r⟩
 let μ':Mu:=λq=>if q=p then some (BD B (F.set i []))else if q=L then some (G i)else μ q
 have hpL:¬L=p:=Dj;have m1:μ' p=some (BD B (F.set i [])):=by simp[μ']
 have m2:μ' L=some (G i):=by simp[μ',hpL]
 have Y:∀q,q≠p->q≠L->μ' q=μ q:=λq h1 h2=>by simp[μ',h1,h2]
 have bg:∀{q x},μ' q=some x->(q=p/\x=BD B (F.set i []))\/(q=L/\x=G i)\/(q≠p/\q≠L/\μ q=some x):=by
  intro q x d;by_cases y:q=p
  .subst y;rw[m1]at d;exact .inl ⟨rfl,(Jj d).symm⟩
  .by_cases C:q=L
   .subst C;rw[m2]at d;exact .inr (.inl ⟨rfl,(Jj d).symm⟩)
   .rw[Y q y C]at d;exact .inr (.inr ⟨y,C,d⟩)
 have gu:∃a n m,G i=.slice a n m:=by obtain⟨a,m,e,_⟩:=zi.2;exact⟨_,_,_,e⟩
 have z:∀{q x b},μ' q=some x->CA x b->(∃(J U:Nat) (K:List Value) (u:Value),F[J]?=some K/\K[U]?=some u/\EP u=some b/\((q=p/\J≠i)\/(q=L/\J=i)))\/(q≠p/\q≠L/\μ q=some x):=by
  intro q x b d hx;rcases bg d with⟨rfl,rfl⟩|⟨rfl,rfl⟩|h3
  .obtain⟨J,U,K,u,g1,g2,r⟩:=Rc.1 hx;obtain⟨y,C⟩:=Tb g1 g2;exact .inl ⟨J,U,K,u,C,g2,r,.inl ⟨rfl,y⟩⟩
  .obtain⟨a,n,m,e⟩:=gu;rw[e]at hx;refine .inl ⟨i,0,_,G i,zi.1,rfl,?_,.inr ⟨rfl,rfl⟩⟩;rw[e];exact RS.1 hx
  .exact .inr h3
 have n8:∀{J U K u b},F[J]?=some K->K[U]?=some u->EP u=some b->CA (BD B F) b:=λg1 g2 r=>Rc.2 ⟨_,_,_,_,g1,g2,r⟩;have b9:∀b,held A μ' b->held A μ b:=by
  rintro b (hb|⟨q,x,d,hx⟩)
  .exact .inl hb
  .rcases z d hx with⟨J,U,K,u,g1,g2,r,_⟩|⟨_,_,g1⟩
   .exact .inr ⟨p,_,l,n8 g1 g2 r⟩
   .exact .inr ⟨q,x,g1,hx⟩
 have Z:∀q x,μ q=some x->(∀ps F,x≠BD ps F)->μ' q=some x:=by
  intro q x d hx;have y:q≠p:=λe=>by subst e;rw[l]at d;exact hx _ _ (Jj d).symm
  have C:q≠L:=λe=>by subst e;rw[V1]at d;cases d
  rw[Y q y C];exact d
 have hf:∀q P qs2,μ q=some (BD P qs2)->∃ps' qs',μ' q=some (BD ps' qs')/\∀(i:Nat) (p:Value),P[i]?=some p->ps'[i]?=some p:=by
  intro q P qs2 d;by_cases e:q=p
  .subst e;rw[l]at d;obtain⟨rfl,rfl⟩:=Nd (Jj d);exact⟨_,_,m1,λ_ _ h=>h⟩
  .have C:q≠L:=λe=>by subst e;rw[V1]at d;cases d
   exact⟨_,_,(Y q e C).trans d,λ_ _ h=>h⟩
 have hD:∀s v,D w (held A μ) μ s v->D w (held A μ') μ' s v:=λs v h=>h.shift b9 Z hf;refine⟨μ',⟨λq x d=> ?_,λq q' x x' b d dh hx cw=> ?_,λq x b d hx=> ?_,h.own.bnd⟩,h.fr,h.base,λg s hg=>⟨(h.glo g s hg).1,hD _ _ (h.glo g s hg).2⟩,h.dfr,h.size,h.env.shift hD,λq d=> ?_,λq x hx=> ?_⟩
 .rcases bg d with⟨rfl,rfl⟩|⟨rfl,rfl⟩|⟨y,C,g1⟩
  .refine⟨_,by rw[It (by simpa using qk),Jq (by simpa using qk)],?_⟩;refine⟨B,_,rfl,by simp[S.ql],λQ j1 i2 M I R u1 u2 b k1 k2 k3 k4 k5 k6=> ?_,λQ dq=> ?_⟩
   .exact S.nd Q j1 i2 M I R u1 u2 b (Tb k1 k2).2 k2 k3 (Tb k4 k5).2 k5 k6
   .have zh:=S.keep (ps:=B) (H':=held A μ') ⟨Ir _,λ_ _ _=>rfl,λb _=>b9 b⟩ (λ_ _=>rfl);by_cases e:i=Q
    .subst e;exact .inl ⟨Dm,Gk⟩
    .rcases zh.mem Q dq with⟨g1,g2⟩|⟨g1,g2,r⟩
     .exact .inl ⟨by simp[g1],Gm⟩
     .exact .inr ⟨by simp[g1,Ne.symm e],Gm,r⟩
  .refine⟨.row T' O (ln i) (ct i) none,by rw[Iz (by simp[L])];simp[L],?_⟩;exact c6x b9 zi.2
  .obtain⟨bl,e,hb⟩:=h.own.blk q x g1;have tn:q<st.own.length:=(Ij.1 e).1;by_cases ek:q=k
   .subst ek;rw[hk]at e;cases e;refine⟨.rowh T sz n f c i ((f i).set j (.osl L)),by rw[It (by simpa using tn),Iw (Ne.symm y),Jq tn],?_⟩;obtain⟨aa,mm,rfl,hn,hm,fw,hl,bb⟩:=hb;rcases bb with rfl|⟨b,o,vs,c7,rfl,hh,ho,h1,dz⟩
    .omega
    refine⟨b,o,mm,vs,rfl,hn,hm,fw,bh,by simpa using(hl i bh).1,λq2 ju _=>hl q2 ju,hh,ho,h1,λq2 M s v ju _ hs H=>hD _ _ (dz q2 M s v ju hs H),λM s v hs H=> ?_⟩;by_cases ej:j=M
    .subst ej;rw[Jq jh]at hs;cases hs;have:=dz i j _ v bh bu H;cases this;obtain⟨a1,n1,m1',e4⟩:=gu;rw[e4]at m2;rw[e4];exact .osl m2
    .rw[Iw ej]at hs;exact hD _ _ (dz i M s v bh hs H)
   .exact⟨bl,by rw[It (by simpa using tn),Iw (Ne.symm y),Iw (Ne.symm ek)];exact e,hb.shift b9 Z hf⟩
 .rcases z d hx with⟨Q,j1,I,u1,g1,g2,r,g4⟩|⟨g1,g2,r⟩<;>rcases z dh cw with⟨i2,M,R,u2,k1,k2,k3,k4⟩|⟨k1,k2,k3⟩
  .have:=S.nd Q j1 i2 M I R u1 u2 b g1 g2 r k1 k2 k3;omega
  .exact absurd (h.own.inj q' p x' _ b k3 l cw (n8 g1 g2 r)) k1
  .exact absurd (h.own.inj q p x _ b r l hx (n8 k1 k2 k3)) g1
  .exact h.own.inj q q' x x' b r k3 hx cw
 .rcases z d hx with⟨Q,j1,I,u1,g1,g2,r,_⟩|⟨_,_,r⟩
  .exact h.own.rng p _ b l (n8 g1 g2 r)
  .exact h.own.rng q x b r hx
 .simp only[I8,K4]at d;rw[Y q Dj (by simp only[L];omega)];exact h.fresh q Dj
 .have y:q≠p:=λe=>Gj;have:=h.anc q x hx;have C:q≠L:=λe=>by subst e;rw[V1]at this;cases this
  rw[Y q y C];exact this
theorem b4g(h:SD E B0 X A w0 nt st a w μ){k j p wt:Nat}{C:Prop}{F:St}(t:b4n E k j p wt st=some (C,F))(da:C):∃μ',SD E B0 X A w0 nt F a w μ':=by
 unfold b4n at t;split at t;rotate_left
 .cases t
 rename_i T sz n f c T' G m L U V W Y Z;split at t;rotate_left
 .cases t
 rename_i B;obtain⟨bv,gf,qj⟩:=B;simp only[Hy]at t;obtain⟨rfl,rfl⟩:=t;obtain⟨M,I,l⟩:=c26 h qj;have hP:PoolOK w (held A μ) T' G m L U V W I:=by obtain⟨bl,e,N⟩:=h.own.blk _ _ l;rw[Z]at e;cases e;obtain⟨ps1,qs1,O,N⟩:=N;obtain⟨rfl,rfl⟩:=Nd O;exact N
 have kg:k<st.own.length:=(Ij.1 Y).1;have qk:p<st.own.length:=(Ij.1 Z).1;have P:∀q,q≠p->μ.drop p q=μ q:=λq e=>by simp[Mu.drop,e]
 have u:∀{q x},μ.drop p q=some x->q≠p/\μ q=some x:=by
  intro q x d;simp only[Mu.drop]at d;split at d
  .cases d
  .exact⟨‹_›,d⟩
 have J:∀b,held A (μ.drop p) b->held A μ b:=by
  rintro b (y|⟨q,x,d,hx⟩)
  .exact .inl y
  .exact .inr ⟨q,x,(u d).2,hx⟩
 have de:Drop p 0 (held A μ) (held A (μ.drop p)) μ (μ.drop p):=by
  refine⟨J,λq x hj hx _=> ?_,λq ps I hj hx=> ?_⟩
  .have e:q≠p:=λe=>Fx;rw[P q e];exact hx
  .have e:q≠p:=λe=>Fx;exact⟨ps,I,by rw[P q e];exact hx,λ_ _ h=>h⟩
 have z:∀i,i<m->U i=true->D w (held A (μ.drop p)) (μ.drop p) (.sl G (V i) (W i) none) (L i):=by
  intro i r ha;rcases hP.mem i r with⟨g1,_⟩|⟨_,g2,g3⟩
  .rw[ha]at g1;cases g1
  .refine c9i J (λb y=> ?_) g3;have Q:EP (L i)=some b:=by
    obtain⟨aa,mm,e,_⟩:=g3;rw[e]at y⊢;exact RS.1 y
   have c8:CA (BD M I) b:=Rc.2 ⟨i,0,_,_,g2,rfl,Q⟩;rintro(hA|⟨q,x,d,hx⟩)
   .exact(h.own.rng p _ b l c8).2.1 hA
   .exact(u d).1 (h.own.inj q p x _ b (u d).2 l hx c8)
 refine⟨μ.drop p,⟨λq x d=> ?_,λq q' x x' b d dh hx cw=>h.own.inj q q' x x' b (u d).2 (u dh).2 hx cw,λq x b d hx=>h.own.rng q x b (u d).2 hx,h.own.bnd⟩,h.fr,h.base,λg s R=>⟨(h.glo g s R).1,GU J (h.glo g s R).2 (h.glo g s R).1⟩,h.dfr,h.size,DY.drop de h.env,λq d=> ?_,λq x hx=> ?_⟩
 .obtain⟨Zh,d⟩:=u d;obtain⟨bl,e,y⟩:=h.own.blk q x d;by_cases ek:q=k
  .subst ek;rw[Y]at e;cases e;refine⟨_,by rw[Iw (Ne.symm Zh),Jq (by simpa using kg)],?_⟩;obtain⟨aa,mm,rfl,hn,hm,fw,K,bb⟩:=y;refine⟨aa,mm,rfl,hn,hm,fw,λi r=> ?_,?_⟩
   .dsimp only;split
    .refine⟨by rw[K4];exact(K i r).1,Iq.2 λs hs=> ?_⟩;rcases L6 hs with hs|rfl
     .exact Iq.1 (K i r).2 s hs
     .rfl
    .exact K i r
   .rcases bb with rfl|⟨b,o,vs,c7,rfl,hh,ho,h1,dz⟩
    .exact .inl rfl
    .refine .inr ⟨b,o,vs,c7,rfl,hh,ho,h1,λi S s v r hs hv=> ?_⟩;have H:∀s,(f i)[S]?=some s->D w (held A (μ.drop p)) (μ.drop p) s v:=λs hs=>GU J (dz i S s v r hs hv) (Iq.1 (K i r).2 s (Ik hs));dsimp only at hs;split at hs
     .rename_i B;by_cases ej:j=S
      .subst ej;have dv:=da i r B.1 B.2;rw[Jq (Ij.1 dv).1]at hs;cases hs;have:=dz i j _ v r dv hv;cases this;exact z i B.1 B.2
      .rw[Iw ej]at hs;exact H s hs
     .exact H s hs
  .exact⟨bl.uf p 0,by rw[Iw (Ne.symm Zh),Iw (Ne.symm ek),Jb,e];rfl,y.drop de⟩
 .simp only[K4,Jp]at d;have:=h.fresh q d;simp[Mu.drop,this]
 .have O:q≠p:=λe=>Gj;rw[P q O];exact h.anc q x hx
end
def OE(n:Nat)(K:Nat->Prop):Prop:=LI n K
theorem d2t(n:Nat)(K:Nat->Prop):OE n K=K n:=Xi n K
def SV.f0(s:SV)(K:SV->Prop):Prop:=match s with
 |.int k n=>K (.int k n)
 |.bool b=>K (.bool b)
 |.con v=>K (.con v)
 |.own k o=>OE k λk=>OE o λo=>K (.own k o)
 |.osl k=>OE k λk=>K (.osl k)
 |.oel k a i o=>OE k λk=>OE o λo=>K (.oel k a i o)
 |.sl a n f c=>K (.sl a n f c)
 |.rel a n f i o=>OE o λo=>K (.rel a n f i o)
 |.agg d=>K (.agg d)
 |.tup d=>K (.tup d)
 |.clo f d=>K (.clo f d)
 |.omp k=>OE k λk=>K (.omp k)
 |.mp T e h v=>K (.mp T e h v)
 |.fp g k i o=>OE k λk=>OE o λo=>K (.fp g k i o)
 |.ub p q=>K (.ub p q)
 |.any=>K .any
def fL(f:SV->(SV->Prop)->Prop):List SV->(List SV->Prop)->Prop
 | [],K=>K []
 |s::r,K=>f s λa=>fL f r λb=>K (a::b)
def SV.f1(s:SV)(K:SV->Prop):Prop:=match s with
 |.agg b=>fL SV.f0 b λa=>K (.agg a)
 |.clo f b=>fL SV.f0 b λa=>K (.clo f a)
 |s=>s.f0 K
def SV.f2(s:SV)(K:SV->Prop):Prop:=match s with
 |.tup b=>fL SV.f1 b λa=>K (.tup a)
 |s=>s.f1 K
def fG(g:Option (Nat×Bool))(K:Option (Nat×Bool)->Prop):Prop:=match g with
 |none=>K none
 |some (n,true)=>K (some (n,true))
 |some (n,false)=>K (some (n,false))
def fE:List Entry->(List Entry->Prop)->Prop
 | [],K=>K []
 |⟨n,g,s⟩::r,K=>fG g λa=>s.f2 λb=>fE r λc=>K (⟨n,a,b⟩::c)
def fB:List Blk->(List Blk->Prop)->Prop
 | [],K=>K []
 |.cells T e::r,K=>fL SV.f0 e λd=>fB r λa=>K (.cells T d::a)
 |.row T b n f c::r,K=>fB r λa=>K (.row T b n f c::a)
 |.map T g h v::r,K=>fB r λa=>K (.map T g h v::a)
 |.fam T j n l F::r,K=>fB r λa=>K (.fam T j n l F::a)
 |.pmap T k h v::r,K=>fB r λa=>K (.pmap T k h v::a)
 |.rowh T b n f c i u::r,K=>fL SV.f0 u λm=>fB r λa=>K (.rowh T b n f c i m::a)
 |.pool T b n o p q s::r,K=>fB r λa=>K (.pool T b n o p q s::a)
 |.dead::r,K=>fB r λa=>K (.dead::a)
def St.force(st:St)(K:St->Prop):Prop:=match st with
 |⟨c,own⟩=>fE c λb=>fB own λa=>K ⟨b,a⟩
theorem SV.f0_eq(s:SV)(K:SV->Prop):s.f0 K=K s:=by cases s<;>simp only[SV.f0,d2t]
theorem XF{f:SV->(SV->Prop)->Prop}(a:∀s K,f s K=K s):∀(l:List SV) (K:List SV->Prop),fL f l K=K l
 | [],_=>rfl
 |s::r,K=>by simp only[fL,a,XF a r]
theorem SV.f1_eq(s:SV)(K:SV->Prop):s.f1 K=K s:=by cases s<;>simp only[SV.f1,SV.f0_eq,XF SV.f0_eq]
theorem SV.f2_eq(s:SV)(K:SV->Prop):s.f2 K=K s:=by cases s<;>simp only[SV.f2,SV.f1_eq,XF SV.f1_eq]
theorem d6g(g:Option (Nat×Bool))(K:Option (Nat×Bool)->Prop):fG g K=K g:=by
 match g with
 |none=>rfl
 |some (n,true)=>rfl
 |some (n,false)=>rfl
theorem f2f:∀(l:List Entry) (K:List Entry->Prop),fE l K=K l
 | [],_=>rfl
 |⟨n,g,s⟩::r,K=>by simp only[fE,d6g,SV.f2_eq,f2f r]
theorem Tg:∀(l:List Blk) (K:List Blk->Prop),fB l K=K l
 | [],_=>rfl
 |.cells T cs::r,K=>by simp only[fB,XF SV.f0_eq,Tg r]
 |.row T a n f c::r,K=>F2
 |.map T ag h v::r,K=>F2
 |.fam T Ts n bt F::r,K=>F2
 |.pmap T k h v::r,K=>F2
 |.rowh T a n f c i u::r,K=>by simp only[fB,XF SV.f0_eq,Tg r]
 |.pool T a n hd al ln ct::r,K=>F2
 |.dead::r,K=>F2
theorem St.force_eq(st:St)(K:St->Prop):st.force K=K st:=by cases st;simp only[St.force,f2f,Tg]
def fE1:List Entry->(List Entry->Prop)->Prop
 | [],K=>K []
 |⟨n,g,s⟩::r,K=>fG g λa=>s.f2 λb=>match r with
  | []=>K [⟨n,a,b⟩]
  |x::c=>K (⟨n,a,b⟩::x::c)
theorem fE1_eq(l:List Entry)(K:List Entry->Prop):fE1 l K=K l:=by
 match l with
 | []=>rfl
 |⟨n,g,s⟩::[]=>simp only[fE1,d6g,SV.f2_eq]
 |⟨n,g,s⟩::x::xs=>simp only[fE1,d6g,SV.f2_eq]
def fB1:List Blk->(List Blk->Prop)->Prop
 | [],K=>K []
 |b::r,K=>K (b::r)
theorem fB1_eq(l:List Blk)(K:List Blk->Prop):fB1 l K=K l:=by cases l<;>rfl
def cheap(o:Oper):Bool:=match o.op with
 |.store _ _ _|.alloc _|.box _ _|.buildSlice _ _ _|.makeSlice _ _ _|.makeMap _ _|.mapUpdate _ _ _ _|.insert _ _ _ _|.call _|.slice _ _ _ _ _=>false
 |_=>true
def St.forceO(o:Oper)(st:St)(K:St->Prop):Prop:=match cheap o with
 |true=>match st with
  |⟨c,own⟩=>fE1 c λb=>fB1 own λa=>K ⟨b,a⟩
 |false=>st.force K
theorem St.forceO_eq(o:Oper)(st:St)(K:St->Prop):st.forceO o K=K st:=by
 unfold St.forceO;split
 .cases st;simp only[fE1_eq,fB1_eq]
 .exact St.force_eq st K
def JM(p:Prop):Prop:=p
theorem JM.mk{p:Prop}(h:p):JM p:=h
theorem JM.out{p:Prop}(h:JM p):p:=h
attribute [irreducible] JM
def Ox(a b:Option Entry):Prop:=a=b
theorem Ox.mk{a b:Option Entry}(h:a=b):Ox a b:=h
theorem Ox.out{a b:Option Entry}(h:Ox a b):a=b:=h
attribute [irreducible] Ox
def ppOf(E:Env)(o:Oper):Option (Nat×Nat×Nat):=match o.dst with
 |some d=>match E.gr (2000+d)with
  |.poolPut t p a::_=>some (t,p,a)
  |_=>none
 |none=>none
def Qy(E:Env)(o:Oper)(K:St->Prop)(st:St):Prop:=match ppOf E o with
 |none=>K st
 |some (t,p,a)=>match b3m E t p a st with
  |some F=>Oo λv=>(F v.val).force K
  |none=>False
theorem b1b{E:Env}{e:Nat}{X A:Nat->Prop}{f:World}{g:Nat}{st:St}{a:Act}{w:World}{μ:Mu}{o:Oper}{K:St->Prop}(h:SD E e X A f g st a w μ)(c:Qy E o K st):∃d b,SD E e X A f g d a w b/\K d:=by
 unfold Qy at c;split at c
 .exact⟨st,μ,h,c⟩
 .split at c
  .rename_i F j;obtain⟨v,b,k⟩:=b1h h j;have i:=c.out v;rw[St.force_eq]at i;exact⟨F v.val,b,k,i⟩
  .exact c.elim
theorem c9w{E:Env}{o:Oper}{K b:St->Prop}{st:St}(c:∀st,K st->b st)(a:Qy E o K st):Qy E o b st:=by
 unfold Qy at a⊢;split at a
 .exact c _ a
 .split at a
  .rename_i F he;refine Oo.mk λv=> ?_;have d:=a.out v;rw[St.force_eq]at d⊢;exact c _ d
  .exact a.elim
def Qo(E:Env)(b:Nat)(ops:Array Oper)(K:St->Prop)(o:Oper)(st:St):Prop:=match d76 E b ops st o with
 |some (p,a)=>JM p/\a.forceO o K
 |none=>False
theorem d5p{E:Env}{b:Nat}{ops:Array Oper}{o:Oper}{K c:St->Prop}(d:∀st,K st->c st)(st:St)(a:Qo E b ops K o st):Qo E b ops c o st:=by
 unfold Qo at a⊢;split at a
 .rw[St.forceO_eq]at a⊢;exact⟨a.1,d _ a.2⟩
 .exact a.elim
noncomputable def NK(E:Env)(a:Nat)(ops:Array Oper)(K:St->Prop)(l:List Oper):St->Prop:=
 List.rec (motive:=λ_=>St->Prop) K (λo _ k b=>Qy E o (Qo E a ops k o) b) l
theorem b3p{E:Env}{a:Nat}{ops:Array Oper}{K:St->Prop}{st:St}:NK E a ops K [] st=K st:=rfl
theorem Xp{E:Env}{a:Nat}{ops:Array Oper}{K:St->Prop}{o:Oper}{r:List Oper}{st:St}:NK E a ops K (o::r) st=Qy E o (Qo E a ops (NK E a ops K r) o) st:=rfl
def HW:Option Nat->Option Nat->Prop
 |_,none=>True
 |c,some m=>c=some m
def SV.lf:SV->SV->Prop
 |_,.any=>True
 |.int k n,.int d m=>if k=d then n=m else False
 |.bool b,.bool c=>b=c
 |.ub p q,.ub y z=>(p->y)/\(q->z)
 |.con v,.con s=>v=s
 |.own k o,.own d e=>if k=d/\o=e then True else False
 |.osl k,.osl d=>if k=d then True else False
 |.oel k g i o,.oel d a t e=>k=d/\g=a/\i=t/\o=e
 |.sl g n f c,.sl a l r u=>n=l/\(if g=a then True else n=0)/\HW c u/\∀i,i<n->f i=r i
 |.con (.slice none 0 0),.sl _ l _ u=>l=0/\HW (some 0) u
 |.rel g n f i o,.rel a l r t e=>g=a/\n=l/\i=t/\o=e/\∀j,j<n->f j=r j
 |.clo f A,.clo r w=>f=r/\A=w
 |.omp k,.omp d=>if k=d then True else False
 |.mp T B h v,.mp C x E s=>(T=C/\B=x)/\(∀q,h q=E q)/\∀q,h q=true->v q=s q
 |_,_=>False
def XM:List SV->List SV->Prop
 | [],[]=>True
 |s::r,t::q=>s.lf t/\XM r q
 |_,_=>False
def HC(xs a:List SV):Prop:=xs=a\/XM xs a
theorem QC{n:Nat}{f a:Nat->List SV}(h:∀i,i<n->f i=a i):∀i,i<n->HC (f i) (a i):=λi b=>.inl (h i b)
def SV.le0:SV->SV->Prop
 |_,.any=>True
 |.int k n,.int a m=>if k=a then n=m else False
 |.bool b,.bool c=>b=c
 |.ub p q,.ub z A=>(p->z)/\(q->A)
 |.con v,.con u=>v=u
 |.own k o,.own a g=>if k=a/\o=g then True else False
 |.osl k,.osl a=>if k=a then True else False
 |.oel k l i o,.oel a d r g=>k=a/\l=d/\i=r/\o=g
 |.sl l n f c,.sl d s t w=>n=s/\(if l=d then True else n=0)/\HW c w/\∀i,i<n->HC (f i) (t i)
 |.con (.slice none 0 0),.sl _ s _ w=>s=0/\HW (some 0) w
 |.rel l n f i o,.rel d s t r g=>l=d/\n=s/\i=r/\o=g/\∀j,j<n->f j=t j
 |.clo f B,.clo t x=>f=t/\B=x
 |.omp k,.omp a=>if k=a then True else False
 |.mp T C h v,.mp E y F u=>(T=E/\C=y)/\(∀q,h q=F q)/\∀q,h q=true->v q=u q
 |.fp G k i o,.fp e a r g=>(if k=a/\o=g then True else False)/\G=e/\(e=true->i=r)
 |.con (.pointer none),.fp e _ _ _=>e=false
 |_,_=>False
def BJ:List SV->List SV->Prop
 | [],[]=>True
 |s::r,t::q=>s.le0 t/\BJ r q
 |_,_=>False
def SV.le1:SV->SV->Prop
 |.agg b,.agg a=>BJ b a
 |s,t=>s.le0 t
def le1L:List SV->List SV->Prop
 | [],[]=>True
 |s::r,t::q=>s.le1 t/\le1L r q
 |_,_=>False
def SV.le2:SV->SV->Prop
 |.tup b,.tup a=>le1L b a
 |s,t=>s.le1 t
section
variable{w:World}{H:Nat->Prop}{μ:Mu}
theorem VS{c b:Option Nat}{m:Nat}(h:HW c b)(a:c=none\/c=some m):b=none\/b=some m:=by
 cases b with
 |none=>exact .inl rfl
 |some k=>
  simp only[HW]at h;subst h;rcases a with a|a
  .cases a
  .exact .inr a
theorem d7h{s t:SV}{v:Value}(h:D w H μ s v)(d:s.lf t):D w H μ t v:=by
 unfold SV.lf at d;split at d
 .exact .any
 .split at d
  .subst_vars;exact h
  .exact d.elim
 .subst d;exact h
 .cases h with
  |ub k h2=>exact .ub (λe=>d.1 (k e)) (λe=>d.2 (h2 e))
 .subst d;exact h
 .split at d
  .rename_i e;obtain⟨rfl,rfl⟩:=e;exact h
  .exact d.elim
 .split at d
  .subst_vars;exact h
  .exact d.elim
 .obtain⟨rfl,rfl,rfl,rfl⟩:=d;exact h
 .rename_i z n f c l n' f' c';obtain⟨rfl,x,hc,hf⟩:=d;cases h with
  |sl a b o m g hm hx fw u hl hd=>
   by_cases y:n=0
   .subst y;exact D2
   .have e:z=l:=by
     split at x
     .assumption
     .exact absurd x y
    subst e;exact .sl a b o m g hm hx (VS hc fw) u (λi hi=>Fy) (λi j s hi hs=>hd i j s hi Fz)
 .obtain⟨rfl,hc⟩:=d;cases h;exact D3
 .obtain⟨rfl,rfl,rfl,rfl,hf⟩:=d;cases h with
  |rel b o g hi hb u hl hd=>exact .rel b o g hi hb u (λi hi=>Fy) (λi j s hi hs=>hd i j s hi Fz)
 .obtain⟨rfl,rfl⟩:=d;exact h
 .split at d
  .subst_vars;exact h
  .exact d.elim
 .obtain⟨⟨rfl,rfl⟩,k,h2⟩:=d;cases h with
  |mp r g hb hm hl hd=>
   have e:=Md k;subst e;exact D4
 .exact d.elim
theorem c93:∀{cs a:List SV},XM cs a->cs.length=a.length/\∀(i:Nat) (t:SV),a[i]?=some t->∃s,cs[i]?=some s/\s.lf t
 | [],[],_=>⟨rfl,λi t h=>Dv⟩
 |s::r,t::q,h=>by
  obtain⟨h1,b⟩:=c93 h.2;refine⟨E9,λi c ht=> ?_⟩;match i with
  |0=>simp at ht;subst ht;exact⟨s,rfl,h.1⟩
  |i+1=>simpa using b i c Ev
 | [],_::_,h=>h.elim
 |_::_,[],h=>h.elim
theorem f5b{s t:SV}(h:s.lf t)(a:s.pure=true):t.pure=true:=by
 unfold SV.lf at h;split at h
 .rfl
 .rfl
 .rfl
 .rfl
 .rfl
 .cases a
 .cases a
 .cases a
 .rfl
 .rfl
 .rfl
 .obtain⟨_,rfl⟩:=h;exact a
 .cases a
 .rfl
 .exact h.elim
theorem XO{cs a:List SV}(h:HC cs a):cs.length=a.length/\(∀(i:Nat) (t:SV),a[i]?=some t->∃s,cs[i]?=some s/\∀{v:Value},D w H μ s v->D w H μ t v)/\(cs.all SV.pure=true->a.all SV.pure=true):=by
 rcases h with rfl|h
 .exact⟨rfl,λi t b=>⟨t,b,λh=>h⟩,λh=>h⟩
 .obtain⟨e,d⟩:=c93 h;refine⟨e,λi t b=> ?_,λf=> ?_⟩
  .obtain⟨s,hs,c⟩:=d i t b;exact⟨s,hs,λg=>d7h g c⟩
  .rw[Iq];intro t b;obtain⟨i,j⟩:=K5.1 b;obtain⟨s,hs,c⟩:=d i t j;exact f5b c (Iq.1 f s (Ik hs))
theorem b4f{s t:SV}{v:Value}(h:D w H μ s v)(d:s.le0 t):D w H μ t v:=by
 unfold SV.le0 at d;split at d
 .exact .any
 .split at d
  .subst_vars;exact h
  .exact d.elim
 .subst d;exact h
 .cases h with
  |ub k h2=>exact .ub (λe=>d.1 (k e)) (λe=>d.2 (h2 e))
 .subst d;exact h
 .split at d
  .rename_i e;obtain⟨rfl,rfl⟩:=e;exact h
  .exact d.elim
 .split at d
  .subst_vars;exact h
  .exact d.elim
 .obtain⟨rfl,rfl,rfl,rfl⟩:=d;exact h
 .rename_i A n f c l n' f' c';obtain⟨rfl,x,hc,hf⟩:=d;cases h with
  |sl a b o m g hm hx fw u hl hd=>
   by_cases y:n=0
   .subst y;exact D2
   .have e:A=l:=by
     split at x
     .assumption
     .exact absurd x y
    subst e;exact .sl a b o m g hm hx (VS hc fw) u (λi hi=>by
     obtain⟨g1,_,B⟩:=XO (w:=w) (H:=H) (μ:=μ) (hf i hi);exact⟨g1▸(hl i hi).1,B (hl i hi).2⟩) (λi j s hi hs=>by
     obtain⟨C,E,F⟩:=(XO (w:=w) (H:=H) (μ:=μ) (hf i hi)).2.1 j s hs;exact F (hd i j C hi E))
 .obtain⟨rfl,hc⟩:=d;cases h;exact D3
 .obtain⟨rfl,rfl,rfl,rfl,hf⟩:=d;cases h with
  |rel b o g hi hb u hl hd=>exact .rel b o g hi hb u (λi hi=>Fy) (λi j s hi hs=>hd i j s hi Fz)
 .obtain⟨rfl,rfl⟩:=d;exact h
 .split at d
  .subst_vars;exact h
  .exact d.elim
 .obtain⟨⟨rfl,rfl⟩,k,h2⟩:=d;cases h with
  |mp r g hb hm hl hd=>
   have e:=Md k;subst e;exact D4
 .obtain⟨z,rfl,hi⟩:=d;split at z;rotate_left
  .exact z.elim
  rename_i e;obtain⟨rfl,rfl⟩:=e;cases h with
  |fp h=>
   refine .fp ?_;split
   .rename_i e;rw[Ih e]at h;rw[<-hi e];exact h
   .rename_i e;rwa[Ii e]at h
 .subst d;cases h;exact .fp rfl
 .exact d.elim
theorem b83:∀{cs a:List SV},BJ cs a->cs.length=a.length/\∀(i:Nat) (t:SV),a[i]?=some t->∃s,cs[i]?=some s/\s.le0 t
 | [],[],_=>⟨rfl,λi t h=>Dv⟩
 |s::r,t::q,h=>by
  obtain⟨h1,b⟩:=b83 h.2;refine⟨E9,λi c ht=> ?_⟩;match i with
  |0=>simp at ht;subst ht;exact⟨s,rfl,h.1⟩
  |i+1=>simpa using b i c Ev
 | [],_::_,h=>h.elim
 |_::_,[],h=>h.elim
theorem c0y{s t:SV}{v:Value}(h:D w H μ s v)(a:s.le1 t):D w H μ t v:=by
 unfold SV.le1 at a;split at a
 .obtain⟨h1,b⟩:=b83 a;cases h with
  |agg c hl d=>
   refine .agg c Dj (λi t v e f=> ?_);obtain⟨s,hs,g⟩:=b i t e;exact b4f (d i s v hs f) g
 .exact b4f h a
theorem c54:∀{cs a:List SV},le1L cs a->cs.length=a.length/\∀(i:Nat) (t:SV),a[i]?=some t->∃s,cs[i]?=some s/\s.le1 t
 | [],[],_=>⟨rfl,λi t h=>Dv⟩
 |s::r,t::q,h=>by
  obtain⟨h1,b⟩:=c54 h.2;refine⟨E9,λi c ht=> ?_⟩;match i with
  |0=>simp at ht;subst ht;exact⟨s,rfl,h.1⟩
  |i+1=>simpa using b i c Ev
 | [],_::_,h=>h.elim
 |_::_,[],h=>h.elim
theorem Pi{s t:SV}{v:Value}(h:D w H μ s v)(a:s.le2 t):D w H μ t v:=by
 unfold SV.le2 at a;split at a
 .obtain⟨h1,b⟩:=c54 a;cases h with
  |tup c hl d=>
   refine .tup c Dj (λi t v e f=> ?_);obtain⟨s,hs,g⟩:=b i t e;exact c0y (d i s v hs f) g
 .exact c0y h a
end
def SV.in0(n:Nat):SV->Bool
 |.own k _=>decide (k<n)
 |.osl k=>decide (k<n)
 |.oel k _ _ _=>decide (k<n)
 |.omp k=>decide (k<n)
 |.fp _ k _ _=>decide (k<n)
 |.clo _ a=>a.all λc=>match c with
  |.own k _=>decide (k<n)
  |.osl k=>decide (k<n)
  |.omp k=>decide (k<n)
  |.fp _ k _ _=>decide (k<n)
  |.oel _ _ _ _|.agg _|.tup _=>false
  |.clo _ a=>a.isEmpty
  |_=>true
 |.agg _|.tup _=>false
 |_=>true
def SV.in1(n:Nat):SV->Bool
 |.agg a=>a.all (SV.in0 n)
 |s=>s.in0 n
def SV.in2(n:Nat):SV->Bool
 |.tup a=>a.all (SV.in1 n)
 |s=>s.in1 n
def cut(n:Nat)(μ:Mu):Mu:=λk=>if k<n then μ k else none
section
variable{w:World}{H H':Nat->Prop}{μ:Mu}{n:Nat}
theorem b5d(j:∀b,H' b->H b){s:SV}{v:Value}(h:D w H μ s v)(hi:s.in0 n=true):D w H' (cut n μ) s v:=by
 have c:∀{k x},k<n->μ k=some x->cut n μ k=some x:=λC hx=>by simp[cut,C,hx]
 cases h with
 |int=>exact .int
 |bool=>exact .bool
 |con=>exact .con
 |own h=>exact .own (c Fb h)
 |osl h=>exact .osl (c Fb h)
 |oel h=>exact .oel (c Fb h)
 |omp h=>exact .omp (c Fb h)
 |fp h=>exact D.fp_mk (λu y e=>⟨u,y,c Fb e,λ_ h=>h⟩) h
 |mp r g l q d f=>exact FV j (.mp r g l q d f) rfl
 |sl a b o m g q hx hc t d f=>exact FV j (.sl a b o m g q hx hc t d f) rfl
 |rel b o g z l t d f=>exact FV j (.rel b o g z l t d f) rfl
 |agg=>simp[SV.in0]at hi
 |tup=>simp[SV.in0]at hi
 |clo E d f=>
  refine .clo E d (λi s v hs F=> ?_);have hc:=Iq.1 hi s (Ik hs);have G:=f i s v hs F;cases G with
  |own h=>exact .own (c Ed h)
  |osl h=>exact .osl (c Ed h)
  |omp h=>exact .omp (c Ed h)
  |fp h=>exact D.fp_mk (λu y e=>⟨u,y,c Ed e,λ_ h=>h⟩) h
  |mp r g l q d f=>exact FV j (.mp r g l q d f) rfl
  |oel h=>simp at hc
  |agg=>simp at hc
  |tup=>simp at hc
  |clo I J K=>exact FV j (.clo I J K) H9
  |int=>exact .int
  |bool=>exact .bool
  |con=>exact .con
  |ub A B=>exact .ub A B
  |any=>exact .any
  |sl a b o m g q hx L t d f=>exact FV j (.sl a b o m g q hx L t d f) rfl
  |rel b o g z l t d f=>exact FV j (.rel b o g z l t d f) rfl
 |ub A B=>exact .ub A B
 |any=>exact .any
theorem b9z(a:∀b,H' b->H b){s:SV}{v:Value}(h:D w H μ s v)(hi:s.in1 n=true):D w H' (cut n μ) s v:=by
 unfold SV.in1 at hi;split at hi
 .cases h with
  |agg c d e=>exact .agg c d (λi s v hs f=>b5d a (e i s v hs f) (Iq.1 hi s (Ik hs)))
 .exact b5d a h hi
theorem c11(a:∀b,H' b->H b){s:SV}{v:Value}(h:D w H μ s v)(hi:s.in2 n=true):D w H' (cut n μ) s v:=by
 unfold SV.in2 at hi;split at hi
 .cases h with
  |tup c d e=>exact .tup c d (λi s v hs f=>b9z a (e i s v hs f) (Iq.1 hi s (Ik hs)))
 .exact b9z a h hi
end
def YL:List (Nat×(Nat->List SV))->List (Nat×(Nat->List SV))->Prop
 | [],[]=>True
 |a::r,b::q=>a.1=b.1/\(∀i,i<a.1->a.2 i=b.2 i)/\YL r q
 |_,_=>False
def d2u(n:Nat):Option (Nat×Nat)->Bool
 |some (_,c)=>decide (c<n)
 |none=>true
theorem c3k{n:Nat}{a:Option (Nat×Nat)}(h:d2u n a=true):∀i c,a=some (i,c)->c<n:=λi c e=>by subst e;simpa[d2u]using h
def Mem.le(m m':Mem):Prop:=m.cs=m'.cs/\YL m.rows m'.rows
def Blk.le(n:Nat):Blk->Blk->Prop
 |.cells T x,.cells a g=>(if T=a/\g.all (SV.in0 n)=true then True else False)/\BJ x g
 |.row T j k f c,.row a d e y z=>(if T=a/\j=d then True else False)/\k=e/\HW c z/\∀i,i<k->HC (f i) (y i)
 |.map T A h v,.map a l m o=>(T=a/\A=l)/\(∀q,h q=m q)/\∀q,h q=true->v q=o q
 |.fam T B k C F,.fam a p e b E=>(if T=a/\B=p/\d2u n b=true then True else False)/\k=e/\C=b/\∀i,i<k->(F i).le (E i)
 |.pmap T k h v,.pmap a e m o=>(if T=a/\k=e/\k<n then True else False)/\(∀q,h q=m q)/\∀q,h q=true->v q=o q
 |.pool T j k G u w H,.pool a d e I r s t=>(if T=a/\j=d then True else False)/\k=e/\(∀i,i<k->u i=r i)/\∀i,i<k->u i=true->G i=I i/\w i=s i/\∀q,q<w i->H i q=t i q
 |_,.dead=>True
 |_,_=>False
def Qv(n:Nat):List Blk->List Blk->Prop
 |_,[]=>True
 |b::r,a::c=>b.le n a/\Qv n r c
 | [],_::_=>False
def f3s(n:Nat)(ρ:List Entry):List Entry->Prop
 | []=>True
 |e::r=>(match e.guard,BW e.slot ρ with
  |none,some x=>match x.guard with
   |none=>(if e.sv.in2 n then True else False)/\x.sv.le2 e.sv
   |some _=>False
  |_,_=>False)/\f3s n ρ r
def Rg(st a:St):Prop:=Qv a.own.length st.own a.own/\f3s a.own.length st.ρ a.ρ
section
variable{w:World}{H:Nat->Prop}{μ:Mu}
theorem b28{n:Nat}:∀{l c:List Blk},Qv n l c->∀(k:Nat) (a:Blk),c[k]?=some a->∃b,l[k]?=some b/\b.le n a
 |_,[],_=>λk b h=>Dv
 |b::r,a::r',h=>λk x hx=>by
  match k with
  |0=>simp at hx;subst hx;exact⟨b,rfl,h.1⟩
  |k+1=>simpa using b28 h.2 k x (by simpa using hx)
 | [],_::_,h=>h.elim
theorem IA.le{μ:Mu}{x:Value}{T:TypeId}{sz n:Nat}{f d:Nat->List SV}{c:Option Nat}(h:IA w H μ x T sz n f c)(hf:∀i,i<n->f i=d i):IA w H μ x T sz n d c:=by
 obtain⟨a,m,rfl,e,g,k,hl,l⟩:=h;refine⟨a,m,rfl,e,g,k,λi hi=>Fy,?_⟩;rcases l with h|⟨b,o,q,r,rfl,t,u,y,z⟩
 .exact .inl h
 .exact .inr ⟨b,o,q,r,rfl,t,u,y,λi j s v hi hs A=>z i j s v hi Fz A⟩
theorem b6b:∀{l c:List (Nat×(Nat->List SV))},YL l c->l.length=c.length/\∀(j:Nat) (b:Nat×(Nat->List SV)),c[j]?=some b->∃a,l[j]?=some a/\a.1=b.1/\∀i,i<a.1->a.2 i=b.2 i
 | [],[],_=>⟨rfl,λj b h=>Dv⟩
 |a::r,b::q,h=>by
  obtain⟨d,e,f⟩:=h;obtain⟨g,k⟩:=b6b f;refine⟨by simp[g],λj x hx=> ?_⟩;match j with
  |0=>simp at hx;subst hx;exact⟨a,rfl,d,e⟩
  |j+1=>simpa using k j x (by simpa using hx)
 | [],_::_,h=>h.elim
 |_::_,[],h=>h.elim
theorem MemOK.le{T:TypeId}{b:List (TypeId×Nat)}{m m':Mem}{p:Value}{us:List Value}(h:MemOK w H T b m p us)(d:m.le m'):MemOK w H T b m' p us:=by obtain⟨c,e⟩:=d;obtain⟨f,g⟩:=b6b e;refine⟨by rw[<-c];exact h.cells,by rw[<-c];exact h.memc,h.len,by rw[<-f];exact h.rlen,λj t r u i k l=> ?_⟩;obtain⟨a,n,o,q⟩:=g j r k;have:=(h.rows j t a u i n l).le q;rwa[o]at this
theorem FamOK.le{T:TypeId}{d:List (TypeId×Nat)}{n:Nat}{e:Option Nat}{F f:Nat->Mem}{ps:List Value}{g:List (List Value)}(h:FamOK w H T d n e F ps g)(k:∀i,i<n->(F i).le (f i)):FamOK w H T d n e f ps g:=by
 refine⟨h.pl,h.ql,h.nd,λi j=> ?_⟩;obtain⟨b,l,m,o,a⟩:=h.mem i j;refine⟨b,l,m,o,?_⟩;rcases a with a|⟨a,c,rfl,p⟩
 .exact .inl a
 .exact .inr ⟨a,c,rfl,p.le (k i j)⟩
theorem Blk.le_sound{n:Nat}{H':Nat->Prop}(G:∀b,H' b->H b){x:Value}{bl I:Blk}(h:CT w H μ x bl)(A:bl.le n I):CT w H' (cut n μ) x I:=by
 unfold Blk.le at A;split at A
 .obtain⟨d,C⟩:=A;split at d;rotate_left
  .exact d.elim
  rename_i B;obtain⟨rfl,M⟩:=B;obtain⟨u,y⟩:=b83 C;obtain⟨b,N,rfl,J,s4,V,E⟩:=h;refine⟨b,N,rfl,J,Dj,V,λi s v hs K=> ?_⟩;obtain⟨t,W,X⟩:=y i s hs;exact b5d G (b4f (E i t v W K) X) (Iq.1 M s (Ik hs))
 .rename_i T Y k f c T' sz' k' O c';obtain⟨d,rfl,Z,P⟩:=A;split at d;rotate_left
  .exact d.elim
  rename_i B;obtain⟨rfl,rfl⟩:=B;obtain⟨a,m,rfl,hn,L,fw,C,bb⟩:=h;have Q:∀i,i<k->(O i).length=Y/\(O i).all SV.pure=true:=λi l=>by obtain⟨g1,_,g3⟩:=XO (w:=w) (H:=H) (μ:=μ) (P i l);exact⟨g1▸(C i l).1,g3 (C i l).2⟩
  refine⟨a,m,rfl,hn,L,VS Z fw,Q,?_⟩;rcases bb with h|⟨b,o,N,c7,rfl,J,ho,u,E⟩
  .exact .inl h
  .refine .inr ⟨b,o,N,c7,rfl,J,ho,u,λi j s v l hs K=> ?_⟩;obtain⟨s0,bu,ji⟩:=(XO (w:=w) (H:=H) (μ:=μ) (P i l)).2.1 j s hs;exact FV G (ji (E i j s0 v l bu K)) (Iq.1 (Q i l).2 s (Ik hs))
 .obtain⟨⟨rfl,rfl⟩,u,y⟩:=A;obtain⟨r,g,rfl,L,C,E⟩:=h;have e:=Md u;subst e;exact⟨r,g,rfl,L,λq z=>by rw[<-y q z];exact C q z,λq i s v z hs K=>GU G (E q i s v z (by rw[y q z];exact hs) K) (Iq.1 (C q z).2 s (Ik (by rw[y q z];exact hs)))⟩
 .obtain⟨d,rfl,rfl,hF⟩:=A;split at d;rotate_left
  .exact d.elim
  rename_i B;obtain⟨rfl,rfl,M⟩:=B;obtain⟨ps,F,rfl,h,J⟩:=h;refine⟨ps,F,rfl,(h.keep ⟨Ir _,λ_ _ _=>rfl,λb _=>G b⟩ (λ_ _=>rfl)).le hF,J.keep (λi c p e d=> ?_)⟩;have:c<n:=c3k M i c e;simp[cut,this,d]
 .obtain⟨d,u,y⟩:=A;split at d;rotate_left
  .exact d.elim
  rename_i B;obtain⟨rfl,rfl,R⟩:=B;obtain⟨⟨ps,F,he⟩,r,g,rfl,L,E⟩:=h;have e:=Md u;subst e;refine⟨⟨ps,F,by simp[cut,R,he]⟩,r,g,rfl,L,λq z=> ?_⟩;obtain⟨p,e,h⟩:=E q z;rw[y q z]at h;exact⟨p,e,D.fp_keep (λps F e=>⟨ps,F,by simp[cut,R,e],λ_ h=>h⟩) h⟩
 .obtain⟨d,rfl,S,pi⟩:=A;split at d;rotate_left
  .exact d.elim
  rename_i B;obtain⟨rfl,rfl⟩:=B;obtain⟨ps,F,rfl,h⟩:=h;have h:=h.keep (ps:=ps) (H':=H') ⟨Ir _,λ_ _ _=>rfl,λb _=>G b⟩ (λ_ _=>rfl);refine⟨ps,F,rfl,h.ql,h.nd,λi l=> ?_⟩;rcases h.mem i l with⟨u,y⟩|⟨u,y,h3⟩
  .exact .inl ⟨by rw[<-S i l];exact u,y⟩
  .obtain⟨U,e2,e3⟩:=pi i l u;refine .inr ⟨by rw[<-S i l];exact u,by rw[<-U];exact y,?_⟩;rw[<-U,<-e2];exact h3.le e3
 .exact Im
 .exact A.elim
theorem c0p{n:Nat}{ρ:List Entry}:∀{a:List Entry},f3s n ρ a->∀(t:Nat) (e:Entry),BW t a=some e->e.guard=none/\∃x,BW t ρ=some x/\x.guard=none/\e.sv.in2 n=true/\x.sv.le2 e.sv
 | [],_=>λt e h=>by simp[BW]at h
 |y::r,h=>λt e d=>by
  simp only[BW]at d;split at d
  .rename_i hs;cases d;have b:=h.1;split at b
   .rename_i x g hx;split at b
    .rename_i i;obtain⟨f,j⟩:=b;split at f
     .rename_i c;exact⟨g,x,by rw[<-hs];exact hx,i,c,j⟩
     .exact f.elim
    .exact b.elim
   .exact b.elim
  .exact c0p h.2 t e d
def XU(E:Env)(st:St):Bool:=decide (E.na<=st.own.length)
theorem b5u{E:Env}{q:Nat}{X A:Nat->Prop}{r:World}{u:Nat}{st d:St}{a:Act}(h:SD E q X A r u st a w μ)(B:Rg st d)(C:XU E d=true):∃m,SD E q X A r u d a w m:=by
 obtain⟨F,G⟩:=B;have n:∀b,held A (cut d.own.length μ) b->held A μ b:=by
  intro b f;rcases f with f|⟨k,x,c,hx⟩
  .exact .inl f
  .refine .inr ⟨k,x,?_,hx⟩;unfold cut at c;split at c
   .exact c
   .cases c
 have l:∀{k x},cut d.own.length μ k=some x->k<d.own.length/\μ k=some x:=by
  intro k x c;unfold cut at c;split at c
  .exact⟨‹_›,c⟩
  .cases c
 refine⟨cut d.own.length μ,⟨λk x c=> ?_,λk H x I b c J=>h.own.inj k H x I b (l c).2 (l J).2,λk x b c=>h.own.rng k x b (l c).2,h.own.bnd⟩,h.fr,h.base,
  λg s i=>⟨(h.glo g s i).1,FV n (h.glo g s i).2 (h.glo g s i).1⟩,h.dfr,h.size,λt e v=> ?_,λk c=>by unfold cut;rw[if_neg Dj],λj x hx=>by
   have h1:=Env.ak_lt (Env.an_ak hx);have h2:E.na<=d.own.length:=by simpa[XU]using C
   unfold cut;rw[Ih Dj];exact h.anc j x hx⟩
 .obtain⟨y,c⟩:=l c;obtain⟨bl,K,f⟩:=h.own.blk k x c;obtain⟨b,z,o⟩:=b28 F k _ (Ig y);rw[K]at z;cases z;exact⟨_,Ig y,Blk.le_sound n f o⟩
 .obtain⟨i,x,hx,L,M,o⟩:=c0p G t e v;have:=h.env t x hx;unfold CK at this⊢;rw[L]at this;rw[i];simp only at this⊢;rw[LG hx]at this;rw[LG v];exact c11 n (Pi this o) M
end
def d41(E:Env)(own:List Blk)(ρ:Operand->Option SV)(e:Op):Option (Prop×SV×Blk):=
 match e with
 |.call c=>match c.callee with
  |.value f=>match ρ f with
   |some (.clo a [])=>match E.Hc a with
    |some h=>match c.args.toList.mapM ρ with
     |some d=>match d.all SV.pure with
      |true=>match h d []with
       |some r=>match r.own with
        | [b]=>some (r.pre,r.res.ren2 (λk=>some (own.length+k)),b.ren (λk=>some (own.length+k)))
        |_=>none
       |none=>none
      |false=>none
     |none=>none
    |none=>none
   |_=>none
  |_=>none
 |_=>none
section
variable{E:Env}{B0:Nat}{X A:Nat->Prop}{a:Act}{w:World}{μ:Mu}
theorem c7v(hC:FU E){own n:List Blk}(C:Own B0 X A w μ n)(hB:B0<=w.heap.size)(J:μ own.length=none)(Y:∀g s,E.glob g=some s->s.pure=true/\D w (held A μ) μ s (.pointer (some ⟨g,0,none⟩)))
 {ρ:Operand->Option SV} (K:∀(x:Operand) (s:SV),ρ x=some s->D w (held A μ) μ s (a.eval x)) {o:Oper} {L:Prop} {s:SV} {b:Blk} (m:d41 E own ρ o.op=some (L,s,b)) (hp:L) (cz:n[own.length]?=some b):
 ∃f z,(execOp a.eval o).run E.P w=.ok (.enter f z) w/\Calls E.P f z w λe M=>∃v d,e=.returned v/\After B0 X A w M μ d n/\(∀j,j≠own.length->d j=μ j)/\D M (held A d) d s v:=by
 unfold d41 at m;split at m;rotate_left
 .cases m
 rename_i c cx;split at m;rotate_left
 .cases m
 rename_i f hf;split at m;rotate_left
 .cases m
 rename_i F N;split at m;rotate_left
 .cases m
 rename_i h S3;split at m;rotate_left
 .cases m
 rename_i xs jy;split at m;rotate_left
 .cases m
 rename_i qi;split at m;rotate_left
 .cases m
 rename_i r hr;split at m;rotate_left
 .cases m
 rename_i b0 pf;simp only[Hy]at m;obtain⟨rfl,rfl,rfl⟩:=m;have fi:=K _ _ N;generalize rj:a.eval f=vf at fi;obtain⟨⟨fn,h1,h2,h3⟩,hS⟩:=hC.2.2 F h S3;cases fi with
 |clo Z fh pg=>
 have zf:Z=[]:=L9.1 fh;subst zf;have hD:=SQ (a:=a) K jy;have hm:c.args.map a.eval=(c.args.toList.map a.eval).toArray:=En;have bn:(execOp a.eval o).run E.P w=.ok (.enter F (c.args.toList.map a.eval).toArray) w:=by simp only[execOp,cx,resolve,hf,rj,Deferred.ofValue,hm,Hz,invoke,callFunc,run_program,h1,h2,I4,h3];simp
 have b9:∀b,held (held A μ) (λ_=>none) b->held A μ b:=by
  rintro b (l|⟨j,x,H,_⟩)
  .exact l
  .cases H
 have Zi:∀b,held A μ b->b<w.heap.size:=by
  rintro b (l|⟨k,x,J,hx⟩)
  .exact C.bnd b l
  .exact(C.rng k x b J hx).1
 have S4:Own 0 (λ_=>True) (held A μ) w (λ_=>none) []:=⟨λk x hx=>(by cases hx),λk S x x' b hx=>(by cases hx),λk x b hx=>(by cases hx),Zi⟩
 have S5:DL w (held (held A μ) (λ_=>none)) (λ_=>none) xs (c.args.toList.map a.eval):=⟨hD.1,λi s v hs hv=>GU b9 (hD.2 i s v hs hv) (Iq.1 qi s (Ik hs))⟩
 have qh:∀g t,E.glob g=some t->t.pure=true/\D w (held (held A μ) (λ_=>none)) BM t (.pointer (some ⟨g,0,none⟩)):=λg t hg=>⟨(Y g t hg).1,FV b9 (Y g t hg).2 (Y g t hg).1⟩
 refine⟨F,_,bn,(hS (held A μ) w xs _ [] (λ_=>none) r Zi qh S4 (λ_ _=>rfl) S5 hr hp).mono ?_⟩;rintro e M ⟨v,d,rfl,gm,rk,fu,_,q⟩;rw[pf]at gm rk;have T:∀b,¬Ti (λ_=>none) b:=by rintro b ⟨k,x,hx,_⟩;cases hx
 have U:∀{x b},d 0=some x->CA x b->b<M.heap.size/\¬held A μ b/\w.heap.size<=b:=by
  intro x b hx l;obtain⟨O,Q,y⟩:=gm.rng 0 x b hx l;refine⟨O,Q,?_⟩;rcases y with y|y
  .exact y
  .exact(T b y).elim
 refine⟨v,λk=>if k=own.length then d 0 else μ k,rfl,?_⟩;generalize B:(λk=>if k=own.length then d 0 else μ k:Mu)=μ2;have G:μ2 own.length=d 0:=by rw[<-B];simp
 have u:∀{k},k≠own.length->μ2 k=μ k:=λJ=>by rw[<-B];simp[J]
 have j8:∀b,held A μ2 b->held (held A μ) d b:=by
  rintro b (R|⟨k,x,hx,l⟩)
  .exact .inl (.inl R)
  .by_cases e:k=own.length
   .rw[e,G]at hx;exact .inr ⟨0,x,hx,l⟩
   .rw[u e]at hx;exact .inl (.inr ⟨k,x,hx,l⟩)
 have ke:∀k j x,(λk=>some (own.length+k)) k=some j->d k=some x->μ2 j=some x:=by
  intro k j x H hx;simp only[J8]at H;subst H;cases k with
  |zero=>rw[L7,G];exact hx
  |succ k=>rw[rk (k+1) Dm]at hx;cases hx
 have bv:Keeps w M (held A μ) (held A μ2) μ μ2:=by
  refine⟨q.size,λb l _=>q.block b l (T b),λb l hh=> ?_,λk x hx=> ?_⟩
  .rcases hh with R|⟨k,x,hx,P3⟩
   .exact .inl R
   .by_cases e:k=own.length
    .rw[e,G]at hx;have:=(U hx P3).2.2;omega
    .rw[u e]at hx;exact .inr ⟨k,x,hx,P3⟩
  .have e:k≠own.length:=λe=>by rw[e,J]at hx;cases hx
   rw[u e];exact hx
 refine⟨⟨⟨λk x hx=> ?_,λk S x x' b hx I l jb=> ?_,λk x b hx l=> ?_,λb l=>Jf (C.bnd b l) q.size⟩,⟨q.os,q.tape,q.output,q.drawn,q.size,λi hi _=>q.block i (Jf hi hB) (T i)⟩,bv⟩,λj H=>u H,YC j8 ke fu⟩
 .by_cases e:k=own.length
  .subst e;rw[G]at hx;obtain⟨bl,V,bc⟩:=gm.blk 0 x hx;simp only[Lw,J8]at V;subst V;exact⟨_,cz,bc.ren j8 ke⟩
  .rw[u e]at hx;obtain⟨bl,V,bc⟩:=C.blk k x hx;exact⟨bl,V,bc.keep bv (λb l=>q.block b (C.rng k x b hx l).1 (T b))⟩
 .by_cases e:k=own.length<;>by_cases W:S=own.length
  .rw[e,W]
  .rw[e,G]at hx;rw[u W]at I;exact((U hx l).2.1 (.inr ⟨S,x',I,jb⟩)).elim
  .rw[W,G]at I;rw[u e]at hx;exact((U I jb).2.1 (.inr ⟨k,x,hx,l⟩)).elim
  .rw[u e]at hx;rw[u W]at I;exact C.inj k S x x' b hx I l jb
 .by_cases e:k=own.length
  .rw[e,G]at hx;obtain⟨O,Q,y⟩:=U hx l;exact⟨O,λR=>Q (.inl R),.inl (Ke hB y)⟩
  .rw[u e]at hx;obtain⟨O,Q,y⟩:=C.rng k x b hx l;exact⟨Jf O q.size,Q,y⟩
end
theorem c8t{P:Program}{B0:Nat}{X A:Nat->Prop}{w:World}{μ:Mu}{own q:List Blk}(K:Own B0 X A w μ q)(Q:∀(k:Nat) (bl:Blk),own[k]?=some bl->q[k]?=some bl)(R:B0<=w.heap.size)(S:μ own.length=none){T ty:TypeId}{sz n:Nat}{f:Nat->List SV}{c:Option Nat}{y:SV}{v u:Value}{C:Prop}{k:Nat}{own':List Blk}{L:Bool}(hx:D w (held A μ) μ (.sl sz n f c) v)(hy:D w (held A μ) μ y u)
 (B:Rl P own T (.sl sz n f c) y=some (C,k,own',L)) (hp:C) (G:∀b,own'[own.length]?=some b->q[own.length]?=some b):
 ∃r w' μ',(Builtin.append_ #[T,T] ty #[v,u]).run P w=.ok r w'/\D w' (held A μ') μ' (.osl own.length) r/\After B0 X A w w' μ μ' q/\∀j,j≠own.length->μ' j=μ j:=by
 simp only[Rl,Ip]at B;obtain⟨e,hT,l,M,z,hz,⟨m,g⟩,R3,B⟩:=B;have U:=On hT;split at B;rotate_left
 .cases B
 rename_i N;obtain⟨rz,g9,N⟩:=N;obtain⟨inf',E,b8,m5,rfl,np⟩:=Qm (w:=w) (H:=held A μ) (μ:=μ) hz;rw[M]at b8;cases b8;have jr:E.cells.size=l.size:=Ew;have fk:∀v∈E.cells.toList,v.oneCell'=true:=Qr np N;obtain⟨V,I,news,rfl,s5,R4,gq,t9,jp,W,vp⟩:=b0g K Q hy R3;have wc:(Builtin.firstCells l.size m (.slice V m I)).run P w=.ok news.toArray w:=RP gq W;have fi:(Builtin.firstCells l.size m (.slice V m I)).run P w.drew=.ok news.toArray w.drew:=RP gq W;unfold b41 at B;dsimp only at B;split at B;rotate_left
 .cases B
 rename_i bp;subst bp;simp only[Hy]at B;obtain⟨rfl,rfl,rfl,rfl⟩:=B;obtain⟨J,fj,qy,O⟩:=hp;obtain⟨c,rfl⟩:∃I,c=some I:=by
  cases c with
  |none=>exact J.elim
  |some c=>exact⟨c,rfl⟩
 replace J:n=c:=J;obtain⟨a,d,olds,rfl,hnc0,hcx0,jw,ta,du,my,wq⟩:=b0g K Q hx (sz:=l.size) (n:=n) (f:=f) (by simp[QR]);have wr:d=n:=by
  cases hx with
  |sl a b o m g hm hx F b7 hl hd=>
   rcases F with F|F
   .cases F
   .cases F;exact J.symm
 subst wr;have Y:=K;replace G:q[own.length]?=some (.row e l.size (d+m) (λj=>if j<d then f j else g (j-d)) none):=G _ Dm;rcases Jz m with Z|Z
 .subst Z;obtain rfl:d=0:=Dj;obtain rfl:news=[]:=K8 Ft;obtain⟨o1,o2⟩:=b9b Y S G (a:=a);exact⟨_,w,_,b03 U M wc,.osl E3,⟨o1,Fr.refl _ _ _,o2⟩,λj hj=>E7⟩
 .have ws:(Builtin.firstCells l.size d (.slice a d d)).run P w.drew=.ok olds.toArray w.drew:=RP jw my;have hr:=b00 (P:=P) (w:=w) (ty:=ty) U M m5 (olds:=olds) (news:=news) ws fi Dj qy O;have wn:=Y.drew;have fx:=grownCap_ge w (d+m) d e;have fy:=Mj w (d+m) d e Em;obtain⟨o1,o2⟩:=SJ (x:=.slice (some ⟨w.heap.size,0,none⟩) (d+m) (grownCap w (d+m) d e)) wn R S G (.cells (olds++news++(Builtin.zeroCells E.cells (grownCap w (d+m) d e-(d+m))).toList).toArray e) (λb O=>(Wb Dj).1 O) (λμ' _ bv=>by
   have dc:=b26 (w':=w.drew.alloc (.cells (olds++news++(Builtin.zeroCells E.cells (grownCap w (d+m) d e-(d+m))).toList).toArray e)) (H':=held A μ') (μ':=μ') (o:=0) (us:=olds++news++(Builtin.zeroCells E.cells (grownCap w (d+m) d e-(d+m))).toList) du jp
    (λi j s v b8 hs t=>by have hj:j<l.size:=Fu;have b6:=KV b8 hj;have gn:=(UX t).1 Ez;rw[Ki]at gn;exact((wq i j s v b8 hs gn).keep Keeps.drew).keep bv)
    (λi j s v b8 hs t=>by have hj:j<l.size:=F8;have b6:=KV b8 hj;have m8:(d+i)*l.size=d*l.size+i*l.size:=L3 _ _ _;have:=(UX t).2 Ez (by rw[jw,gq];omega);rw[jw,show 0+(d+i)*l.size+j-d*l.size=i*l.size+j from Dj]at this;exact((vp i j s v b8 hs this).keep Keeps.drew).keep bv)
   refine⟨_,_,rfl,fx,fy,.inl rfl,dc.1,.inr ⟨w.heap.size,0,_,Dj,rfl,Ly w.drew _,?_,λv t=> ?_,dc.2⟩⟩
   .simp only[Ie,jw,gq,Kk,Mq,jr,<-L3];rw[show d+m+(grownCap w (d+m) d e-(d+m))=grownCap w (d+m) d e from Dj];exact Bw
   .rcases Jd.1 t with t|t
    .rcases Jd.1 t with t|t
     .exact ta v t
     .exact t9 v t
    .exact Tr fk _ v t)
  refine⟨_,_,_,hr,.osl E3,⟨o1,Fr.drew.trans (Fr.alloc _ R),?_⟩,λj hj=>E7⟩;exact Cf
def d00(E:Env)(own:List Blk)(ρ:Operand->Option SV)(d:Op):Option (Prop×SV×Blk):=match d with
 |.call {callee:=.builtin .append,args:=⟨[x,y]⟩,argTypes:=⟨[T,U]⟩}=>if T=U then(ρ x).bind λe=>(ρ y).bind λg=>match e with
  |.sl h n f c=>match Rl E.P own T (.sl h n f c) g with
   |some (p,_,a,true)=>(a[own.length]?).map λb=>(p,.osl own.length,b)
   |_=>none
  |_=>none
  else none
 |_=>none
theorem c85{E:Env}{B0:Nat}{X A:Nat->Prop}{a:Act}{w:World}{μ:Mu}{own d:List Blk}(q:Own B0 X A w μ d)(t:∀(k:Nat) (bl:Blk),own[k]?=some bl->d[k]?=some bl)(u:B0<=w.heap.size)(v:μ own.length=none)
 {ρ:Operand->Option SV} (i:∀(x:Operand) (s:SV),ρ x=some s->D w (held A μ) μ s (a.eval x)) {o:Oper} {l:Prop} {s:SV} {b:Blk} (e:d00 E own ρ o.op=some (l,s,b)) (z:l) (B:d[own.length]?=some b):
 ∃r m g,(execOp a.eval o).run E.P w=.ok (.value r) m/\After B0 X A w m μ g d/\(∀j,j≠own.length->g j=μ j)/\D m (held A g) g s r:=by
 unfold d00 at e;split at e;rotate_left
 .cases e
 rename_i x y T U C;split at e;rotate_left
 .cases e
 rename_i F;subst F;simp only[Ip]at e;obtain⟨sx,G,sy,H,e⟩:=e;split at e;rotate_left
 .cases e
 rename_i sz n f c;split at e;rotate_left
 .cases e
 rename_i p0 k own' I;simp only[Hx]at e;obtain⟨b0,J,rfl,rfl,rfl⟩:=e;obtain⟨r,m,g,K,L,M,N⟩:=c8t (P:=E.P) (ty:=o.type) q t u v (i _ _ G) (i _ _ H) I z (λb h=>by rw[J]at h;cases h;exact B);refine⟨r,m,g,?_,M,N,L⟩;simp only[execOp,C,resolve,Hz,invoke,builtin];rw[show (⟨[x,y]⟩:Array Operand).map a.eval= #[a.eval x,a.eval y]from Dm,K];simp
def EM(o:Oper)(j:Nat):Bool:=o.after.toList.any λe=>Region.binds .any e&&e.on==j
def b2v(ops:Array Oper):Nat->Option (Nat×Bool)->List Nat
 |0,_=>[]
 |_,none=>[]
 |n+1,some (j,_)=>match ops[j]? with
  |some o=>match o.dst with
   |some d=>d::b2v ops n o.guard
   |none=>b2v ops n o.guard
  |none=>[]
def MM(ops:Array Oper)(o:Oper):List Nat:=(o.op.operands.toList.filterMap λx=>match x with|.tmp t=>some t|_=>none)++b2v ops 6 o.guard
def QL(ks:List Nat)(o:Oper):Nat:=
 if o.after.toList.any λe=>Region.binds .any e&&ks.getD e.on 0==2 then 2 else match o.op with
 |.store _ _ _=>1
 |.call {callee:=.builtin .append,..}=>2
 |.mapUpdate _ _ _ _|.insert _ _ _ _=>2
 |.call {callee:=.builtin .delete,..}|.call {callee:=.builtin .copy,..}|.call {callee:=.builtin .clear,..}=>2
 |_=>0
def reach1(o:Oper)(a:List Nat):Nat:=o.after.toList.foldl (λm e=>if Region.binds .any e then m|||1 <<< e.on|||a.getD e.on 0 else m) 0
def b89:List Oper->List Nat->List Nat
 | [],a=>a
 |o::l,a=>b89 l (a++[reach1 o a])
def d3m(ops:Array Oper):List Nat:=b89 ops.toList []
inductive Reach (ops:Array Oper):Nat->Nat->Prop
 |one {i j:Nat} {o:Oper} (h:ops[i]?=some o) (hw:EM o j=true):Reach ops i j
 |more {i j k:Nat} {o:Oper} (h:ops[i]?=some o) (hw:EM o k=true) (hr:Reach ops k j):Reach ops i j
theorem c2z(l:List Edge)(b:List Nat):∀(m j:Nat),(l.foldl (λm e=>if Region.binds .any e then m|||1 <<< e.on|||b.getD e.on 0 else m) m).testBit j=true->m.testBit j=true\/∃e∈l,Region.binds .any e=true/\(e.on=j\/(b.getD e.on 0).testBit j=true):=by
 induction l with
 |nil=>intro m j h;exact .inl h
 |cons e l c=>
  intro m j h;simp only[Lb]at h;rcases c _ j h with h|⟨d,f,a⟩
  .split at h
   .rename_i a;simp only[Nat.testBit_or,Jn]at h;rcases h with(h|h)|h
    .exact .inl h
    .refine .inr ⟨e,Dm,a,.inl ?_⟩;rw[Nat.testBit_shiftLeft]at h;simp only[I3]at h;have:=h.2;match hk:j-e.on with
     |0=>omega
     |n+1=>
      rw[hk,Nat.testBit_succ]at this;simp at this
    .exact .inr ⟨e,Dm,a,.inr h⟩
   .exact .inl h
  .exact .inr ⟨d,by simp[f],a⟩
theorem c06(ops:Array Oper):∀(l:List Oper) (a:List Nat),(∀k,l[k]?=ops[a.length+k]?)->(∀i j,i<a.length->(a.getD i 0).testBit j=true->Reach ops i j)->∀i j,((b89 l a).getD i 0).testBit j=true->Reach ops i j:=by
 intro l;induction l with
 |nil=>
  intro a _ h i j b;by_cases d:i<a.length
  .exact h i j d b
  .rw[b89,If,Km Dj]at b;simp at b
 |cons o l q=>
  intro a f h;refine q _ (λk=> ?_) (λi j d b=> ?_)
  .have:=f (k+1);simp only[Kn]at this;rw[this,Jm];congr 1;simp only[Jy,M9];omega
  .by_cases g:i<a.length
   .rw[If,It g,<-If]at b;exact h i j g b
   .have r:i=a.length:=by simp at d;omega
    subst r;rw[If,Iz (Ir _)]at b;simp only[Ka,Lw,K2]at b;have m:ops[a.length]?=some o:=by have:=f 0;simpa using this.symm
    rcases c2z _ _ _ _ b with s|⟨e,t,u,c⟩
    .simp at s
    .have n:EM o e.on=true:=by
      simp only[EM,J3,Ib];exact⟨e,t,u,rfl⟩
     rcases c with rfl|c
     .exact .one m n
     .by_cases v:e.on<a.length
      .exact .more m n (h _ _ v c)
      .rw[If,Km Dj]at c;simp at c
theorem b0j{ops:Array Oper}{i j:Nat}(h:((d3m ops).getD i 0).testBit j=true):Reach ops i j:=
 c06 ops ops.toList [] (λk=>Dm) (λi j a=>by simp at a) i j h
def b25(ks:List Nat)(o:Oper):Nat:=
 if QL ks o==2 then 2 else match o.op with
 |.call {callee:=.value _,..}=>2
 |_=>QL ks o
def d3q(o:Oper):Bool:=match o.op with
 |.call {callee:=.value (.tmp _),..}=>true
 |_=>false
def b2d(ks:List Nat)(o:Oper):Nat:=
 if QL ks o==2 then 2 else match d3q o with
 |true=>1
 |false=>if o.after.toList.any λe=>Region.binds .any e&&ks.getD e.on 0==1 then(match o.op with
  |.store _ _ _=>1
  |_=>2)else QL ks o
def f0g(ops:Array Oper)(o:Oper):Bool:=match o.op with
 |.call {callee:=.builtin .append,args:=⟨.tmp t::_⟩,..}=>ops.toList.any λy=>match y.op with
  |.buildSlice _ 0 _=>y.dst==some t
  |_=>false
 |_=>false
def b2k(ops:Array Oper)(ks:List Nat)(o:Oper):Nat:=
 if o.after.toList.any λe=>Region.binds .any e&&ks.getD e.on 0==2 then 2 else match f0g ops o with
 |true=>0
 |false=>QL ks o
def Oh(o:Oper):Option (Nat×Nat):=match o.op,o.guard,o.dst with
 |.move (.tmp s),none,some d=>some (s,d)
 |_,_,_=>none
def d0a(ops:Array Oper)(ks a:List Nat)(x:Oper×Nat):Bool:=match Oh x.1 with
 |some (s,d)=>ops.toList.zipIdx.all λy=>y.1.dst !=some s&&(!(MM ops y.1).contains d||(ks.getD y.2 0==2&&(a.getD y.2 0).testBit x.2))
 |none=>false
def f02(ops:Array Oper)(ks:List Nat):List Nat:=match ks.all (λk=>k !=2)with
 |true=>ks
 |false=>let a:=d3m ops
  ops.toList.zipIdx.map λx=>if ks.getD x.2 0==0&&(ops.toList.zipIdx.any λy=>ks.getD y.2 0==2&& !(a.getD y.2 0).testBit x.2)&&d0a ops ks a x then 3 else ks.getD x.2 0
def c9c(ops:Array Oper)(ks:List Nat):Bool:=
 let l:=ops.toList.zipIdx
 let a:=d3m ops
 l.all (λx=>x.1.after.toList.all λe=> !Region.binds .any e||decide (e.on<x.2))&&
 QP (l.filterMap λx=>x.1.dst)&&
 l.all (λx=>ks.getD x.2 0==2||(MM ops x.1).all λt=>l.all λy=>y.2==x.2||y.1.dst !=some t||(if y.2<x.2&&ks.getD y.2 0==0 then(a.getD x.2 0).testBit y.2 else(a.getD y.2 0).testBit x.2))&&
 l.all (λx=>ks.getD x.2 0 !=1||((x.1.dst==none||d3q x.1)&&x.1.guard.isNone&&l.all λy=> !(decide (y.2<x.2)&&ks.getD y.2 0==1)||EM x.1 y.2))&&
 l.all (λx=>match x.1.guard with|some (j,_)=>EM x.1 j|none=>true)&&
 l.all (λx=>ks.getD x.2 0 !=2||l.all λy=>y.2==x.2||(ks.getD y.2 0==2&&decide (x.2<y.2))||ks.getD y.2 0==3||(a.getD x.2 0).testBit y.2)&&
 l.all (λx=>ks.getD x.2 0 !=3||d0a ops ks a x)
def d3e(b:Nat)(ops:Array Oper):List Nat:=ops.toList.foldl (λa o=>a++[match b with|0=>QL a o|1=>b25 a o|2=>b2d a o|_=>b2k ops a o]) []
def kinds(b:Nat)(ops:Array Oper):List Nat:=f02 ops (d3e b ops)
def SK(b:Nat)(ops:Array Oper):Bool:=c9c ops (kinds b ops)
def HV(b:Nat)(ops:Array Oper)(k:Nat):List (Oper×Nat):=ops.toList.zipIdx.filter λx=>(kinds b ops).getD x.2 0==k
def Qu(b:Nat)(ops:Array Oper):List ((Oper×Nat)×List (Oper×Nat)):=(HV b ops 2).map λx=>(x,(HV b ops 3).filter λf=>match f.1.dst with|some d=>(MM ops x.1).contains d|none=>false)
def KR(b:Nat)(ops:Array Oper):List Nat:=(HV b ops 3).filterMap (·.1.dst)
def MJ(a:List Nat)(ρ:List Entry):List Entry:=ρ.filter λe=>a.contains e.slot
def SV.pureA:SV->Bool
 |.agg a=>a.all SV.pure
 |s=>s.pure
theorem c87{w:World}{H H':Nat->Prop}{μ μ':Mu}(c:∀b,H' b->H b){s:SV}{v:Value}(h:D w H μ s v)(a:s.pureA=true):D w H' μ' s v:=by
 unfold SV.pureA at a;split at a
 .cases h with
  |agg d e f=>exact .agg d e λi s v hs g=>FV c (f i s v hs g) (Iq.1 a s (Ik hs))
 .exact FV c h a
def bornB(E:Env)(o:Oper):Bool:=match o.op with
 |.buildSlice _ _ _=>match o.dst with
  |some d=>E.fz d
  |none=>false
 |_=>false
def opdP(ρ:Operand->Option SV)(x:Operand):Option SV:=(ρ x).bind λs=>if s.pureA=true then some s else none
def c53(P:Program)(ρ:Operand->Option SV)(a:Op):Option (Prop×SV):=match Uw P [] (opdP ρ) a with
 |some (p,_,.row _ b n f c)=>some (p,.sl b n f c)
 |_=>none
theorem b6y{E:Env}{B0:Nat}{X A:Nat->Prop}{a:Act}{w:World}{μ:Mu}{own:List Blk}(u:Own B0 X A w μ own){ρ:Operand->Option SV}(m:∀(x:Operand) (s:SV),ρ x=some s->D w (held A μ) μ s (a.eval x)){o:Oper}{i:Prop}{s:SV}
 (l:c53 E.P ρ o.op=some (i,s)) (v:i):∃r j,(execOp a.eval o).run E.P w=.ok (.value r) j/\Fr w.heap.size (λ_=>False) w j/\D j (held A μ) μ s r:=by
 unfold c53 at l;split at l;rotate_left
 .cases l
 rename_i p y T B n f c d;cases l;have C:Own w.heap.size (λ_=>False) (held A μ) w (λ_=>none) [.row T B n f c]:=by
  refine⟨λk x h=>Dw,λk k' x x' b h=>Dw,λk x b h=>Dw,λb e=> ?_⟩;rcases e with e|⟨k,x,g,hx⟩
  .exact u.bnd b e
  .exact(u.rng k x b g hx).1
 obtain⟨r,j,μ',F,q,h3,G⟩:=b5r (E:=E) (own:=[]) C (Ir _) rfl (ρ:=opdP ρ) (λx s hs=>by
  unfold opdP at hs;simp only[Ip]at hs;obtain⟨s1,H,t⟩:=hs;split at t
  .rename_i I;cases t;refine c87 (λb e=> ?_) (m x _ H) I;rcases e with e|⟨k,x,g,_⟩
   .exact e
   .cases g
  .cases t) d v rfl
 refine⟨r,j,F,q.fr,?_⟩;have J:∃k,y=.osl k/\k=0:=by
  unfold Uw at d;split at d<;>(try simp only[Ip,In]at d)
  .obtain⟨z,_,d⟩:=d;split at d<;>cases d
  .obtain⟨_,_,_,_,d⟩:=d;split at d<;>cases d
  .obtain⟨_,_,_,_,d⟩:=d;cases d;exact⟨0,rfl,rfl⟩
  .obtain⟨_,_,_,_,_,_,_,_,d⟩:=d;split at d<;>cases d
   exact⟨0,rfl,rfl⟩
  .obtain⟨_,_,_,_,_,_,d⟩:=d;split at d
   .split at d<;>cases d
    exact⟨0,rfl,rfl⟩
   .cases d
  .cases d
 obtain⟨k,rfl,rfl⟩:=J;cases G with
 |osl g=>
  obtain⟨bl,e,K⟩:=q.own.blk 0 _ g;cases e;exact c9i (λb e=>.inl e) (λb e=>(q.own.rng 0 _ b g e).2.1) K
def PG(E:Env)(nt:Nat)(ops:Array Oper)(ρ:List Entry)(own:List Blk)(o:Oper):Option (Prop×Option Entry×Option Blk):=
 if !IP nt o.dst then none else
 match o.guard with
 |some (j,p)=>match o.dst,(ops[j]?).bind (·.dst)with
  |some d,some g=>if g<nt/\g≠d then(Ux ρ 5 g p).bind λc=>match bornB E o with
   |true=>(c53 E.P (BZ E ρ (some (g,p))) o.op).map λr=>(c->r.1,some ⟨d,some (g,p),r.2⟩,none)
   |false=>(QF E ⟨ρ,own⟩ (some (g,p)) o.op).map λr=>(c->r.1,some ⟨d,some (g,p),r.2⟩,none)
   else none
  |_,_=>none
 |none=>match bornB E o with
  |true=>(c53 E.P (BZ E ρ none) o.op).map λr=>(r.1,o.dst.map (λd=>⟨d,none,r.2⟩),none)
  |false=>match o.op with
   |.store _ _ _=>none
   |.alloc _|.box _ _|.buildSlice _ _ _|.makeSlice _ _ _=>(Uw E.P own (BZ E ρ none) o.op).map λr=>(r.1,o.dst.map (λd=>⟨d,none,r.2.1⟩),some r.2.2)
   |.makeMap T r=>(c6v E (BZ E ρ none) T r).map λb=>(True,o.dst.map (λd=>⟨d,none,.omp own.length⟩),some b)
   |a=>match d41 E own (BZ E ρ none) a with
    |some r=>some (r.1,o.dst.map (λd=>⟨d,none,r.2.1⟩),some r.2.2)
    |none=>match d00 E own (BZ E ρ none) a with
     |some r=>some (r.1,o.dst.map (λd=>⟨d,none,r.2.1⟩),some r.2.2)
     |none=>(QF E ⟨ρ,own⟩ none a).map λr=>(r.1,o.dst.map (λd=>⟨d,none,r.2⟩),none)
def Nn(w:World)(H:Nat->Prop)(μ:Mu)(tmps:Array Value):Option Entry->Prop
 |none=>True
 |some e=>CK w H μ tmps e
section
variable{E:Env}{B0:Nat}{X A:Nat->Prop}{nt:Nat}{a:Act}{w:World}{μ:Mu}
theorem c28(hE:EnvOK E)(hC:FU E){ρ:List Entry}{own y:List Blk}(F:Own B0 X A w μ y)(S:B0<=w.heap.size)(be:∀(k:Nat) (bl:Blk),own[k]?=some bl->y[k]?=some bl)(G:∀g s,E.glob g=some s->s.pure=true/\D w (held A μ) μ s (.pointer (some ⟨g,0,none⟩)))
 (C:DY w (held A μ) μ a.tmps ρ) (bp:a.tmps.size=nt) {ops:Array Oper} {o:Oper} {U:Prop} {out:Option Entry} {bl:Option Blk} (m:PG E nt ops ρ own o=some (U,out,bl)) (I:U)
 (W:∀b,bl=some b->μ own.length=none/\y[own.length]?=some b) {K:Act->World->Prop} {Q:Exit->Act->World->Prop}
 (hK:∀v t l,After B0 X A w t μ l y->(∀j,(bl.isSome=true->j≠own.length)->l j=μ j)->Nn t (held A l) l (a.put o.dst v).tmps out->K (a.put o.dst v) t):
 (out.map (·.slot)=o.dst\/out=none/\o.dst=none)/\if Region.wanted o (yielded ops a.tmps)then o.wp E.P a w K Q else K (a.put o.dst undef) w:=by
 unfold PG at m;split at m
 .cases m
 rename_i ft;have hd:IP nt o.dst=true:=by simpa using ft
 have calls:∀{t:World},Fr w.heap.size (λ_=>False) w t->After B0 X A w t μ μ y:=λz=>
  ⟨F.calls z,⟨z.os,z.tape,z.output,z.drawn,z.size,λi hi _=>z.block i (Jf hi S) (λh=>h)⟩,z.keeps⟩
 split at m
 .rename_i j p jv;split at m;rotate_left
  .cases m
  rename_i d g J wy;split at m;rotate_left
  .cases m
  rename_i b6;obtain⟨b6,ba⟩:=b6;simp only[Ip]at m;obtain⟨c,Y,m⟩:=m;have R:d<a.tmps.size:=by rw[bp];simpa[IP,J]using hd
  have hw:=b6u (a:=a) jv wy (by rw[bp];exact b6);have no:∀s,¬a.tmps.getD g undef=.bool p->Nn w (held A μ) μ (a.put o.dst undef).tmps (some ⟨d,some (g,p),s⟩):=λs hb=>by rw[J];unfold Nn CK Act.put;simp only;rw[LV R,LV R,Ih rfl,Ii ba];exact⟨λhh=>absurd hh hb,λ_=>rfl⟩
  have V:∀{s:SV} {v:Value} {t:World},a.tmps.getD g undef=.bool p->D t (held A μ) μ s v->Nn t (held A μ) μ (a.put o.dst v).tmps (some ⟨d,some (g,p),s⟩):=λhb x=>by rw[J];unfold Nn CK Act.put;simp only;rw[LV R,LV R,Ih rfl,Ii ba];exact⟨λ_=>x,λu=>absurd hb u⟩
  split at m
  .simp only[Hx]at m;obtain⟨⟨Z,s⟩,hs,rfl,rfl,rfl⟩:=m;refine⟨.inl (by simp[J]),?_⟩;split
   .rename_i dm;have hb:=hw.1 dm;have fw:=b05 C 5 g p c Y hb;obtain⟨r,t,H,z,x⟩:=b6y (E:=E) F (PW (λn s u=>(G n s u).2) C (λq b e=>by cases e;exact hb)) hs (I fw);unfold Oper.wp;rw[H];exact hK r t μ (calls z) (λ_ _=>rfl) (V hb x)
   .rename_i dm;exact D5
  simp only[Hx]at m;obtain⟨⟨Z,s⟩,hs,rfl,rfl,rfl⟩:=m;refine⟨.inl (by simp[J]),?_⟩;split
  .rename_i dm;have hb:=hw.1 dm;have fw:=b05 C 5 g p c Y hb;exact b1j hE hC F be G C (g:=some (g,p)) (λq b e=>by cases e;exact hb) hs (I fw) (λv t x z=>hK v t μ (calls z) (λ_ _=>rfl) (V hb x))
  .rename_i dm;exact D5
 .rename_i jv;rw[Ih Eh];have put:∀{t:World} {l:Mu} {s:SV} {v:Value},D t (held A l) l s v->Nn t (held A l) l (a.put o.dst v).tmps (o.dst.map λd=>⟨d,none,s⟩):=by
   intro t l s v x;cases J:o.dst with
   |none=>exact Im
   |some d=>
    have R:d<a.tmps.size:=by rw[bp];simpa[IP,J]using hd
    simp only[Ju];unfold Nn CK Act.put;simp only;rw[LV R,Ih rfl];exact x
  have slot:∀s:SV,((o.dst.map λd=>(⟨d,none,s⟩:Entry)).map (·.slot)=o.dst\/(o.dst.map λd=>(⟨d,none,s⟩:Entry))=none/\o.dst=none):=by intro s;cases o.dst<;>simp
  split at m
  .simp only[Hx]at m;obtain⟨⟨Z,s⟩,u,rfl,rfl,rfl⟩:=m;obtain⟨r,t,H,z,x⟩:=b6y (E:=E) F (PW (λn s u=>(G n s u).2) C (λq b e=>Ds)) u I;refine⟨slot s,?_⟩;unfold Oper.wp;rw[H];exact hK r t μ (calls z) (λ_ _=>rfl) (put x)
  split at m
  .cases m
  iterate 4
   .simp only[Hx]at m;obtain⟨⟨Z,s,b⟩,u,rfl,rfl,rfl⟩:=m;obtain⟨L,M⟩:=W b rfl;obtain⟨r,t,l,H,N,B,x⟩:=b5r F S L (PW (λn s u=>(G n s u).2) C (λq b e=>Ds)) u I M;refine⟨slot s,?_⟩;unfold Oper.wp;rw[H];exact hK r t l N (λj O=>B j (O rfl)) (put x)
  .rename_i T r0 cx;simp only[Hx]at m;obtain⟨b,u,rfl,rfl,rfl⟩:=m;obtain⟨L,M⟩:=W b rfl;obtain⟨r,t,l,H,N,B,x⟩:=b1g hE F S L (PW (λn s u=>(G n s u).2) C (λq b e=>Ds)) cx u M;refine⟨slot _,?_⟩;unfold Oper.wp;rw[H];exact hK r t l N (λj O=>B j (O rfl)) (put x)
  .split at m
   .rename_i r u;simp only[Hy]at m;obtain⟨rfl,rfl,rfl⟩:=m;obtain⟨L,M⟩:=W _ rfl;obtain⟨f,vals,bn,Y⟩:=c7v hC F S L G (PW (λn s u=>(G n s u).2) C (λq b e=>Ds)) u I M;refine⟨slot _,?_⟩;unfold Oper.wp;rw[bn];refine Y.mono ?_;rintro e t ⟨v,l,rfl,N,B,x⟩;exact hK v t l N (λj O=>B j (O rfl)) (put x)
   split at m
   .rename_i r u;simp only[Hy]at m;obtain⟨rfl,rfl,rfl⟩:=m;obtain⟨L,M⟩:=W _ rfl;obtain⟨v,t,l,H,N,B,x⟩:=c85 F be S L (PW (λn s u=>(G n s u).2) C (λq b e=>Ds)) u I M;refine⟨slot _,?_⟩;unfold Oper.wp;rw[H];exact hK v t l N (λj O=>B j (O rfl)) (put x)
   .simp only[Hx]at m;obtain⟨⟨Z,s⟩,hs,rfl,rfl,rfl⟩:=m;refine⟨slot s,?_⟩;exact b1j hE hC F be G C (g:=none) (λq b e=>Ds) hs I (λv t x z=>hK v t μ (calls z) (λ_ _=>rfl) (put x))
end
structure PI where
 o:Oper
 i:Nat
 own:List Blk
 out:Option Entry
 al:Option Blk
def NN(a:List Nat)(e:Entry):Entry:=match e.guard with
 |some (g,_)=>if a.contains g then {e with guard:=none,sv:=.any}else e
 |none=>e
def Ok(out:Option Entry)(a:List Entry):List Entry:=match out with
 |some e=>e::a
 |none=>a
def fO(o:Option Entry)(K:Option Entry->Prop):Prop:=match o with
 |none=>K none
 |some ⟨n,g,s⟩=>fG g λg=>s.f2 λs=>K (some ⟨n,g,s⟩)
theorem fO_eq(o:Option Entry)(K:Option Entry->Prop):fO o K=K o:=by
 match o with
 |none=>rfl
 |some ⟨n,g,s⟩=>simp only[fO,d6g,SV.f2_eq]
def fA(own:List Blk)(c:Option Blk)(K:Option Blk->List Blk->Prop):Prop:=match c with
 |none=>K none own
 |some b=>fB (own++[b]) λa=>K (some b) a
theorem fA_eq(own:List Blk)(a:Option Blk)(K:Option Blk->List Blk->Prop):fA own a K=K a (own++a.toList):=by
 cases a
 .simp[fA]
 .simp[fA,Tg]
def parK(E:Env)(d:Nat)(ops:Array Oper)(ρ0:List Entry)(K:List PI->List Entry->List Blk->Prop):List (Oper×Nat)->List PI->List Entry->List Blk->Prop
 | [],done,b,own=>K done b own
 |(o,i)::r,done,b,own=>match PG E d ops (MJ (MM ops o) (b++ρ0)) own o with
  |some (p,out,c)=>JM p/\fO out λout=>fA own c λc a=>parK E d ops ρ0 K r (⟨o,i,own,out,c⟩::done) (Ok out b) a
  |none=>False
def Sp(ps:List PI)(i:Nat):List Entry:=(ps.filter λq=>decide (q.i<i)).filterMap (·.out)
def TN(E:Env)(a:Nat)(ops:Array Oper)(ρ0:List Entry)(ps:List PI)(sd:List Oper)(own:List Blk):List PI->Prop
 | []=>True
 |q::r=>if sd.any (λs=>EM s q.i)then TN E a ops ρ0 ps sd own r else match PG E a ops (MJ (MM ops q.o) (Sp ps q.i++ρ0)) own q.o with
  |some (p,out,none)=>JM p/\Ox out q.out/\TN E a ops ρ0 ps sd own r
  |_=>False
def c5d(E:Env)(b nb:Nat)(ρ:List Entry)(own:List Blk)(o:Oper):Option (Prop×List Blk×Option Entry):=match o.op with
 |.store T p x=>(BZ E ρ none p).bind λc=>(BZ E ρ none x).bind λe=>(Rw E.P own T c e).bind λr=>match o.dst with
  |none=>some (r.1,r.2,none)
  |some _=>none
 |_=>match b7j E own (BZ E ρ none) o.op with
  |some (p,s,a,[])=>match Nat.beq own.length nb&&Nat.beq a.length nb&&IP b o.dst with
   |true=>some (p,a,o.dst.map λd=>⟨d,none,s⟩)
   |false=>none
  |_=>none
def b8q(E:Env)(b nb:Nat)(ops:Array Oper)(ρ0:List Entry)(ps:List PI)(K:List Entry->List Blk->Prop):List (Oper×Nat)->List Oper->List Entry->List Blk->Prop
 | [],_,c,own=>K c own
 |(o,i)::r,d,c,own=>match c5d E b nb (MJ (MM ops o) (Sp ps i++ρ0)) own o with
  |some (p,a,out)=>JM p/\fO out λout=>fB a λa=>TN E b ops ρ0 ps (o::d) a ps/\b8q E b nb ops ρ0 ps K r (o::d) (Ok out c) a
  |none=>False
def PT(a:List Nat)(ρ:List Entry):List Entry:=(ρ.filter λe=> !a.contains e.slot).map (NN a)
def Py(E:Env)(c:Nat)(b:Nat)(ops:Array Oper)(d:List Nat)(K:St->Prop):List ((Oper×Nat)×List (Oper×Nat))->St->Prop
 | [],a=>NK E b ops K ((HV c ops 3).map (·.1)) a
 |g::r,a=>NK E b ops (λa=>St.force ⟨PT d a.ρ,a.own⟩ (Py E c b ops d K r)) (g.2.map (·.1)++[g.1.1]) a
def Xc(E:Env)(c:Nat)(a:Nat)(ops:Array Oper)(K:St->Prop)(st:St):Prop:=match KR c ops with
 | []=>NK E a ops K ((HV c ops 2).map (·.1)) st
 |d::b=>St.force ⟨PT (d::b) st.ρ,st.own⟩ (Py E c a ops (d::b) K (Qu c ops))
def kb(c:Bool)(ops:Array Oper):Nat:=match c with
 |true=>match SK 1 ops with
  |true=>1
  |false=>match SK 2 ops with
   |true=>2
   |false=>0
 |false=>match ops.toList.any (f0g ops)with
  |true=>match SK 0 ops with
   |true=>0
   |false=>3
  |false=>0
def Xw(E:Env)(b:Nat)(ops:Array Oper)(K:St->Prop)(st:St):Prop:=OE (kb E.c2 ops) λc=>
 let a:=(st.ρ.filter λe=> !(KR c ops).contains e.slot).map (NN (ops.toList.filterMap (·.dst)))
 fE a λa=>parK E b ops a (λd f own=>b8q E b st.own.length ops a d (λg own=>Xc E c b ops K ⟨g++(f++a),own⟩) (HV c ops 1) [] [] own) (HV c ops 0) [] [] st.own
def Qi(ps:List PI)(ρ0:List Entry)(i:Nat)(ρ:List Entry):Prop:=
 ∀t e,BW t ρ=some e->(∃q∈ps,q.i<i/\q.out=some e)\/(BW t ρ0=some e/\∀q∈ps,q.i<i->∀a,q.out=some a->a.slot≠t)
theorem b44{t:Nat}:∀(l r:List Entry),BW t (l++r)=match BW t l with|some e=>some e|none=>BW t r
 | [],r=>rfl
 |x::l,r=>by
  simp only[L8,BW];split
  .rfl
  .exact b44 l r
theorem b2b{t:Nat}:∀{l:List Entry},BW t l=none↔∀e∈l,e.slot≠t
 | []=>by simp[BW]
 |x::l=>by
  simp only[BW,Iv,forall_eq_or_imp];split
  .rename_i h;simp[h]
  .rename_i h;rw[b2b];simp[h]
theorem MO{t:Nat}{e:Entry}:∀{l:List Entry},BW t l=some e->e∈l
 | [],h=>by simp[BW]at h
 |x::l,h=>by
  simp only[BW]at h;split at h
  .cases h;simp
  .exact Je _ (MO h)
theorem b56{ps:List PI}{ρ0 b:List Entry}{i:Nat}(d:∀e∈b,∃q∈ps,q.i<i/\q.out=some e)(f:∀q∈ps,q.i<i->∀e,q.out=some e->e∈b):Qi ps ρ0 i (b++ρ0):=by
 intro t e a;rw[b44]at a;split at a
 .rename_i x hx;cases a;exact .inl (d _ (MO hx))
 .rename_i g;exact .inr ⟨a,λq h j c k=>b2b.1 g c (f q h j c k)⟩
theorem b1d{ps:List PI}{ρ0:List Entry}{i:Nat}:Qi ps ρ0 i (Sp ps i++ρ0):=by
 refine b56 (λe a=> ?_) (λq b c e a=> ?_)
 .simp only[Sp,M2,Jx,Is]at a;obtain⟨q,⟨b,c⟩,d⟩:=a;exact⟨q,b,c,d⟩
 .simp only[Sp,M2,Jx,Is];exact⟨q,⟨b,c⟩,a⟩
structure ParOK (E:Env) (nt:Nat) (ops:Array Oper) (ρ0:List Entry) (base own0:List Blk) (ps:List PI):Prop where
 step:∀q∈ps,∃ρ p,Qi ps ρ0 q.i ρ/\PG E nt ops (MJ (MM ops q.o) ρ) q.own q.o=some (p,q.out,q.al)/\p
 sub:∀q∈ps,(∀(k:Nat) (bl:Blk),q.own[k]?=some bl->own0[k]?=some bl)/\∀b,q.al=some b->own0[q.own.length]?=some b
 low:∀q∈ps,base.length<=q.own.length
 one:∀q∈ps,∀q'∈ps,q.al.isSome=true->q'.al.isSome=true->q.own.length=q'.own.length->q.i=q'.i
 base:∀(k:Nat) (bl:Blk),base[k]?=some bl->own0[k]?=some bl
 top:∀q∈ps,q.al.isSome=true->q.own.length<own0.length
theorem f7u{E:Env}{G:Nat}{ops:Array Oper}{ρ0:List Entry}{base:List Blk}{K:List PI->List Entry->List Blk->Prop}:∀(l:List (Oper×Nat)) (done:List PI) (m:List Entry) (own:List Blk),parK E G ops ρ0 K l done m own->
 ParOK E G ops ρ0 base own done->(∀e∈m,∃q∈done,q.out=some e)->(∀q∈done,∀e,q.out=some e->e∈m)->(∀q∈done,∀x∈l,q.i<x.2)->l.Pairwise (λx y=>x.2<y.2)->base.length<=own.length->(∀q∈done,∀d∈done,q.i=d.i->q=d)->
 ∃n s f,ParOK E G ops ρ0 base f n/\(∀e,e∈s↔∃q∈n,q.out=some e)/\K n s f/\(∀q,q∈n->q∈done\/(q.o,q.i)∈l)/\(∀x∈l,∃q∈n,q.o=x.1/\q.i=x.2)/\(∀q∈done,q∈n)/\base.length<=f.length/\∀q∈n,∀d∈n,q.i=d.i->q=d:=by
 intro l;induction l with
 |nil=>
  intro done m own h r F H _ _ v O;exact⟨done,m,own,r,λe=>⟨F e,λ⟨q,a,w⟩=>H q a e w⟩,h,λq a=>.inl a,λx hx=>by simp at hx,λq a=>a,v,O⟩
 |cons x l ih=>
  intro done m own h r F H W P v O;obtain⟨o,i⟩:=x;simp only[parK]at h;split at h;rotate_left
  .exact h.elim
  rename_i p out g hs;rw[fO_eq,fA_eq]at h;obtain⟨Q,h⟩:=h;replace Q:=Q.out;rw[K0]at P;have I:∀q∈done,q.i<i:=λq a=>W q a (o,i) Dm;have z:∀q∈done,∀A,Qi done ρ0 q.i A->Qi (⟨o,i,own,out,g⟩::done) ρ0 q.i A:=by
   intro q a A R t e c;rcases R t e c with⟨d,j,J,S⟩|⟨T,hn⟩
   .exact .inl ⟨d,Je _ j,J,S⟩
   .refine .inr ⟨T,λd j J e' S=> ?_⟩;rcases Iv.1 j with rfl|j
    .have:=I q a;simp only at J;omega
    .exact hn d j J e' S
  have L:∀(k:Nat) (u:Blk),own[k]?=some u->(own++g.toList)[k]?=some u:=λk u B=>by rw[It (Ij.1 B).1];exact B
  have f6:Qi (⟨o,i,own,out,g⟩::done) ρ0 i (m++ρ0):=by
   refine b56 (λe c=> ?_) (λq a hi e c=> ?_)
   .obtain⟨q,a,w⟩:=F e c;exact⟨q,Je _ a,I q a,w⟩
   .rcases Iv.1 a with rfl|a
    .simp only at hi;omega
    .exact H q a e c
  have U:ParOK E G ops ρ0 base (own++g.toList) (⟨o,i,own,out,g⟩::done):=by
   refine⟨λq a=> ?_,λq a=> ?_,λq a=> ?_,λq a d j C X c=> ?_,λk u B=>L k u (r.base k u B),λq a C=> ?_⟩
   .rcases Iv.1 a with rfl|a
    .exact⟨m++ρ0,p,f6,hs,Q⟩
    .obtain⟨A,p',M,N,e3⟩:=r.step q a;exact⟨A,p',z q a A M,N,e3⟩
   .rcases Iv.1 a with rfl|a
    .refine⟨L,λb v=> ?_⟩;simp only at v;subst v;simp
    .obtain⟨s1,s2⟩:=r.sub q a;exact⟨λk u B=>L k u (s1 k u B),λb v=>L _ _ (s2 b v)⟩
   .rcases Iv.1 a with rfl|a
    .exact v
    .exact r.low q a
   .rcases Iv.1 a with rfl|a<;>rcases Iv.1 j with rfl|j
    .rfl
    .have:=r.top d j X;simp only at c;omega
    .have:=r.top q a C;simp only at c;omega
    .exact r.one q a d j C X c
   .rcases Iv.1 a with rfl|a
    .simp only at C⊢;cases g with
     |none=>simp at C
     |some b=>simp
    .have:=r.top q a C;rw[Jm];omega
  have k1:∀e∈Ok out m,∃q∈(⟨o,i,own,out,g⟩:PI)::done,q.out=some e:=by
   intro e c;unfold Ok at c;split at c
   .rename_i e0;rcases Iv.1 c with rfl|c
    .exact⟨_,M3,rfl⟩
    .obtain⟨q,a,w⟩:=F e c;exact⟨q,Je _ a,w⟩
   .obtain⟨q,a,w⟩:=F e c;exact⟨q,Je _ a,w⟩
  have k2:∀q∈(⟨o,i,own,out,g⟩:PI)::done,∀e,q.out=some e->e∈Ok out m:=by
   intro q a e c;unfold Ok;rcases Iv.1 a with rfl|a
   .simp only at c;subst c;simp
   .have:=H q a e c;split
    .exact Je _ this
    .exact this
  have k3:∀q∈(⟨o,i,own,out,g⟩:PI)::done,∀x∈l,q.i<x.2:=by
   intro q a x hx;rcases Iv.1 a with rfl|a
   .exact P.1 x hx
   .exact W q a x (Je _ hx)
  have k4:∀q∈(⟨o,i,own,out,g⟩:PI)::done,∀d∈(⟨o,i,own,out,g⟩:PI)::done,q.i=d.i->q=d:=by
   intro q a d j e;rcases Iv.1 a with M|Y<;>rcases Iv.1 j with N|Z
   .rw[M,N]
   .rw[M]at e;have:=I d Z;simp only at e;omega
   .rw[N]at e;have:=I q Y;simp only at e;omega
   .exact O q Y d Z e
  obtain⟨n,s,f,r1,r2,r3,r4,r5,r6,r7,r8⟩:=ih (⟨o,i,own,out,g⟩::done) (Ok out m) (own++g.toList) h U k1 k2 k3 P.2 (by rw[Jm];omega) k4;refine⟨n,s,f,r1,r2,r3,λq a=> ?_,λx hx=> ?_,λq a=>r6 q (Je _ a),r7,r8⟩
  .rcases r4 q a with V|T
   .rcases Iv.1 V with rfl|V
    .exact .inr M3
    .exact .inl V
   .exact .inr (Je _ T)
  .rcases Iv.1 hx with rfl|hx
   .exact⟨⟨o,i,own,out,g⟩,r6 _ M3,rfl,rfl⟩
   .exact r5 x hx
structure Draws (b:Nat) (ops:Array Oper):Prop where
 lt:∀(i:Nat) (o:Oper) (j:Nat),ops[i]?=some o->EM o j=true->j<i
 uniq:∀(i:Nat) (o:Oper) (j:Nat) (o':Oper) (d:Nat),ops[i]?=some o->ops[j]?=some o'->o.dst=some d->o'.dst=some d->i=j
 names:∀(i:Nat) (o:Oper) (t j:Nat) (o':Oper),ops[i]?=some o->(kinds b ops).getD i 0≠2->t∈MM ops o->ops[j]?=some o'->j≠i->o'.dst=some t->if j<i/\(kinds b ops).getD j 0=0 then Reach ops i j else Reach ops j i
 store:∀(i:Nat) (o:Oper),ops[i]?=some o->(kinds b ops).getD i 0=1->o.guard=none/\∀(j:Nat) (o':Oper),ops[j]?=some o'->j<i->(kinds b ops).getD j 0=1->EM o j=true
 guard:∀(i:Nat) (o:Oper) (j:Nat) (p:Bool),ops[i]?=some o->o.guard=some (j,p)->EM o j=true
 last:∀(i:Nat) (o:Oper) (j:Nat) (o':Oper),ops[i]?=some o->(kinds b ops).getD i 0=2->ops[j]?=some o'->j≠i->¬((kinds b ops).getD j 0=2/\i<j)->(kinds b ops).getD j 0≠3->Reach ops i j
 free:∀(i:Nat) (o:Oper),ops[i]?=some o->(kinds b ops).getD i 0=3->∃s d,Oh o=some (s,d)/\∀(j:Nat) (o':Oper),ops[j]?=some o'->o'.dst≠some s/\(d∈MM ops o'->(kinds b ops).getD j 0=2/\Reach ops j i)
theorem MU{ops:Array Oper}{i:Nat}{o:Oper}(h:ops[i]?=some o):(o,i)∈ops.toList.zipIdx:=by rw[List.mk_mem_zipIdx_iff_getElem?];simpa using h
theorem f71{ops:Array Oper}{i:Nat}{o:Oper}(h:(o,i)∈ops.toList.zipIdx):ops[i]?=some o:=by rw[List.mk_mem_zipIdx_iff_getElem?]at h;simpa using h
theorem b5t:∀{l:List Nat},QP l=true->l.Nodup
 | [],_=>Mf
 |x::r,h=>by simp only[QP,Id,Me,Kp]at h;exact Kb.2 ⟨h.1,b5t h.2⟩
theorem b7f{l:List (Oper×Nat)}(e:l.Pairwise (λx y=>x.2≠y.2))(h:(l.filterMap λx=>x.1.dst).Nodup):∀x∈l,∀y∈l,∀d,x.1.dst=some d->y.1.dst=some d->x=y:=by
 induction l with
 |nil=>intro x hx;simp at hx
 |cons z l m=>
  rw[K0]at e;have n:(l.filterMap λx=>x.1.dst).Nodup:=by
   rw[List.filterMap_cons]at h;split at h
   .exact h
   .exact(Kb.1 h).2
  have f:∀y∈l,∀d,z.1.dst=some d->y.1.dst=some d->False:=by intro y c d a b;rw[List.filterMap_cons,a]at h;exact(Kb.1 h).1 (M2.2 ⟨y,c,b⟩)
  intro x hx y c d a b;rcases Iv.1 hx with g|i<;>rcases Iv.1 c with j|k
  .rw[g,j]
  .rw[g]at a;exact(f y k d a b).elim
  .rw[j]at b;exact(f x i d b a).elim
  .exact m e.2 n x i y k d a b
theorem c41(ops:Array Oper):ops.toList.zipIdx.Pairwise (λx y=>x.2<y.2):=by rw[Jr];intro i j hi hj dt;simp only[List.getElem_zipIdx];omega
theorem d5y{m:Nat}{ops:Array Oper}(h:SK m ops=true):Draws m ops:=by
 unfold SK c9c at h;simp only[Jc]at h;obtain⟨⟨⟨⟨⟨⟨u,C⟩,v⟩,w⟩,x⟩,y⟩,z⟩:=h;rw[Iq]at u v w y x z;refine⟨λi o j a A=> ?_,λi o j k d a b f E=> ?_,λi o t j k a c F b n f=> ?_,λi o a c=> ?_,λi o j p a q=> ?_,λi o j k a c b n G r=> ?_,λi o a c=> ?_⟩
 .have:=Iq.1 (u _ (MU a));simp only[EM,J3,Ib]at A;obtain⟨e,H,I,rfl⟩:=A;have:=this e H;rw[I]at this;simpa using this
 .have:=b7f ((c41 ops).imp λh=>Nat.ne_of_lt h) (b5t C) _ (MU a) _ (MU b) d f E;exact Lz Prod.snd this
 .have:=v _ (MU a);simp only[Jn,Kx]at this;rcases this with h|h
  .exact absurd h c
  .have:=Iq.1 (Iq.1 h t F) _ (MU b);simp only[Jn,Kx,bne_iff_ne,ne_eq]at this;rcases this with(h|h)|h
   .exact absurd h n
   .exact absurd f h
   .by_cases g:j<i/\(kinds m ops).getD j 0=0
    .rw[Ih g];rw[Ih ⟨by simpa using g.1,g.2⟩]at h;exact b0j h
    .rw[Ii g];rw[Ii (λB=>g ⟨by simpa using B.1,B.2⟩)]at h;exact b0j h
 .have:=w _ (MU a);simp only[Jn,bne_iff_ne,ne_eq,Ib,Option.isNone_iff_eq_none]at this;rcases this with h|⟨⟨_,q⟩,hs⟩
  .exact absurd c h
  .refine⟨q,λj k b J K=> ?_⟩;have:=Iq.1 hs _ (MU b);rw[Jn]at this;rcases this with h|h
   .exfalso;rw[J7 J,K]at h;simp at h
   .exact h
 .have:=x _ (MU a);simp only[q]at this;exact this
 .have:=y _ (MU a);simp only[Jn,bne_iff_ne,ne_eq]at this;rcases this with h|h
  .exact absurd c h
  .have:=Iq.1 h _ (MU b);simp only[Jn,Kx,I3]at this;rcases this with((h|h)|h)|h
   .exact absurd h n
   .exact absurd h G
   .exact absurd h r
   .exact b0j h
 .have:=z _ (MU a);simp only[Jn,bne_iff_ne,ne_eq]at this;rcases this with h|h
  .exact absurd c h
  .unfold d0a at h;split at h
   .rename_i s d L;refine⟨s,d,L,λj k b=> ?_⟩;have:=Iq.1 h _ (MU b);simp only[Ib,bne_iff_ne,ne_eq,Jn,Bool.not_eq_true',Me,Kp]at this;refine⟨this.1,λf=> ?_⟩;rcases this.2 with l|l
    .exact absurd f l
    .exact⟨l.1,b0j l.2⟩
   .cases h
theorem NP{c:Nat}{ops:Array Oper}{k i:Nat}{o:Oper}:(o,i)∈HV c ops k↔ops[i]?=some o/\(kinds c ops).getD i 0=k:=by unfold HV;rw[Jx];simp only[Kx];exact⟨λ⟨a,b⟩=>⟨f71 a,b⟩,λ⟨a,b⟩=>⟨MU a,b⟩⟩
theorem OJ{o:Oper}{s d:Nat}(h:Oh o=some (s,d)):o.dst=some d:=by
 unfold Oh at h;split at h
 .cases h;assumption
 .cases h
theorem b9y{o:Oper}{s d:Nat}(h:Oh o=some (s,d)):o.op=.move (.tmp s)/\o.guard=none:=by
 unfold Oh at h;split at h
 .cases h;exact⟨Dp,Dp⟩
 .cases h
theorem QX{c:Nat}{ops:Array Oper}{d:Nat}:d∈KR c ops↔∃i o,ops[i]?=some o/\(kinds c ops).getD i 0=3/\o.dst=some d:=by
 unfold KR;rw[M2];constructor
 .rintro⟨⟨o,i⟩,a,b⟩;obtain⟨e,f⟩:=NP.1 a;exact⟨i,o,e,f,b⟩
 .rintro⟨i,o,a,b,g⟩;exact⟨(o,i),NP.2 ⟨a,b⟩,g⟩
theorem b1m(a:Nat)(ops:Array Oper)(k:Nat):(HV a ops k).Pairwise (λx y=>x.2<y.2):=(c41 ops).filter _
theorem b02{c:List Nat}{t:Nat}{e:Entry}:∀{ρ:List Entry},BW t (MJ c ρ)=some e->t∈c/\BW t ρ=some e
 | [],h=>by simp[MJ,BW]at h
 |x::r,h=>by
  simp only[MJ,List.filter_cons]at h;split at h
  .rename_i a;simp only[BW]at h⊢;split at h
   .rename_i hs;cases h;exact⟨by rw[<-hs];simpa using a,by rw[Ih hs]⟩
   .rename_i hs;obtain⟨h1,b⟩:=b02 (ρ:=r) h;exact⟨h1,by rw[Ii hs];exact b⟩
  .rename_i a;obtain⟨h1,b⟩:=b02 (ρ:=r) h;refine⟨h1,?_⟩;simp only[BW];rw[Ii (λhs=>by subst hs;exact a Ee)];exact b
theorem Ru{E:Env}{nt:Nat}{ops:Array Oper}{ρ:List Entry}{own:List Blk}{o:Oper}{p:Prop}{out:Option Entry}{l:Option Blk}(a:PG E nt ops ρ own o=some (p,out,l)):
 out.map (·.slot)=o.dst/\(∀e,out=some e->∀g b,e.guard=some (g,b)->∃j h,o.guard=some (j,h)/\(ops[j]?).bind (·.dst)=some g):=by
 have slot:∀s:SV,(o.dst.map λd=>(⟨d,none,s⟩:Entry)).map (·.slot)=o.dst:=by intro s;cases o.dst<;>simp
 have noguard:∀s:SV,∀e,(o.dst.map λd=>(⟨d,none,s⟩:Entry))=some e->∀g b,e.guard=some (g,b)->∃j h,o.guard=some (j,h)/\(ops[j]?).bind (·.dst)=some g:=by intro s e a g b i;rw[In]at a;obtain⟨d,_,rfl⟩:=a;cases i
 unfold PG at a;split at a
 .cases a
 split at a
 .rename_i j f m;split at a;rotate_left
  .cases a
  rename_i d g n q;split at a;rotate_left
  .cases a
  simp only[Ip]at a;obtain⟨c,hc,a⟩:=a;split at a;all_goals
   simp only[Hx]at a;obtain⟨⟨p1,s⟩,hs,rfl,rfl,rfl⟩:=a;refine⟨by simp[n],λe a g' b i=> ?_⟩;cases a;cases i;exact⟨j,f,m,q⟩
 .split at a
  .simp only[Hx]at a;obtain⟨⟨f,s⟩,k,rfl,rfl,rfl⟩:=a;exact⟨slot s,noguard s⟩
  split at a
  .cases a
  iterate 4
   .simp only[Hx]at a;obtain⟨⟨f,s,b⟩,k,rfl,rfl,rfl⟩:=a;exact⟨slot s,noguard s⟩
  .simp only[Hx]at a;obtain⟨b,k,rfl,rfl,rfl⟩:=a;exact⟨slot _,noguard _⟩
  .split at a
   .simp only[Hy]at a;obtain⟨rfl,rfl,rfl⟩:=a;exact⟨slot _,noguard _⟩
   split at a
   .simp only[Hy]at a;obtain⟨rfl,rfl,rfl⟩:=a;exact⟨slot _,noguard _⟩
   .simp only[Hx]at a;obtain⟨⟨f,s⟩,hs,rfl,rfl,rfl⟩:=a;exact⟨slot s,noguard s⟩
theorem b0w(a:List Nat)(e:Entry):(NN a e).slot=e.slot:=by unfold NN;split<;>(try split)<;>rfl
theorem b59{E:Env}{nt:Nat}{ops:Array Oper}{ρ0:List Entry}{ps:List PI}{sd:List Oper}{own:List Blk}:∀{l:List PI},TN E nt ops ρ0 ps sd own l->∀q∈l,(∃s∈sd,EM s q.i=true)\/
 ∃p,PG E nt ops (MJ (MM ops q.o) (Sp ps q.i++ρ0)) own q.o=some (p,q.out,none)/\p
 | [],_,q,a=>by simp at a
 |x::r,h,q,a=>by
  simp only[TN]at h;split at h
  .rename_i b;rcases Iv.1 a with rfl|a
   .exact .inl (by simpa using b)
   .exact b59 h q a
  .split at h
   .rename_i p out hs;rcases Iv.1 a with rfl|a
    .exact .inr ⟨p,by rw[<-h.2.1.out];exact hs,h.1.out⟩
    .exact b59 h.2.2 q a
   .exact h.elim
theorem b64{P:Program}{own own':List Blk}{T:TypeId}{p x:SV}{b:Prop}(a:Rw P own T p x=some (b,own')):own'.length=own.length:=by
 unfold Rw at a;simp only[I5]at a;obtain⟨n,hn,us,jq,a⟩:=a;repeat' split at a
 all_goals first|(cases a;simp;done)|cases a
section
variable{E:Env}{B0:Nat}{X A:Nat->Prop}{w0:World}{nt:Nat}{ops:Array Oper}{st:St}{a0:Act}{ρ0:List Entry}{ps:List PI}{es:List Entry}{own0:List Blk}{K:St->Prop}
def Ld(listed:Array Bool)(i:Nat):Prop:=listed.getD i true=true
structure Inv1 (E:Env) (B0:Nat) (X A:Nat->Prop) (w0:World) (nt:Nat) (ops:Array Oper) (st:St) (a0:Act) (ρ0:List Entry) (ps:List PI) (es:List Entry) (own0:List Blk) (K:St->Prop)
 (listed:Array Bool) (a:Act) (w:World) (μ:Mu) (sd:List Oper) (xs:List Entry) (sr:List (Oper×Nat)) (om:List Blk):Prop where
 own:Own B0 X A w μ om
 len:om.length=own0.length
 fr:Fr B0 X w0 w
 base:B0<=w.heap.size
 glo:∀g s,E.glob g=some s->s.pure=true/\D w (held A μ) μ s (.pointer (some ⟨g,0,none⟩))
 dfr:a.defers=[]
 size:a.tmps.size=nt
 sk:b8q E nt st.own.length ops ρ0 ps (λxs own=>Xc E (kb E.c2 ops) nt ops K ⟨xs++(es++ρ0),own⟩) sr sd xs om
 late:om=own0\/TN E nt ops ρ0 ps sd om ps
 sdL:∀s∈sd,∃i,ops[i]?=some s/\(kinds (kb E.c2 ops) ops).getD i 0=1/\Ld listed i
 xsE:∀e∈xs,e.guard=none/\CK w (held A μ) μ a.tmps e/\∃s∈sd,s.dst=some e.slot
 xsA:∀s∈sd,∀d,s.dst=some d->∃e∈xs,e.slot=d
 srU:∀x∈sr,ops[x.2]?=some x.1/\(kinds (kb E.c2 ops) ops).getD x.2 0=1/\¬Ld listed x.2
 srA:∀(i:Nat) (o:Oper),ops[i]?=some o->(kinds (kb E.c2 ops) ops).getD i 0=1->¬Ld listed i->(o,i)∈sr
 srP:sr.Pairwise (λx y=>x.2<y.2)
 ent:∀q∈ps,Ld listed q.i->Nn w (held A μ) μ a.tmps q.out
 tmp:∀t,(∀q∈ps,Ld listed q.i->q.o.dst≠some t)->t∉KR (kb E.c2 ops) ops->(∀s∈sd,s.dst≠some t)->a.tmps.getD t undef=a0.tmps.getD t undef
 frd:∀(i:Nat) (o:Oper) (s d:Nat),ops[i]?=some o->(kinds (kb E.c2 ops) ops).getD i 0=3->Oh o=some (s,d)->Ld listed i->d<nt->a.tmps.getD d undef=a0.tmps.getD s undef
 fresh:∀k,st.own.length<=k->(∀q∈ps,Ld listed q.i->q.al.isSome=true->q.own.length≠k)->μ k=none
 env0:DY w (held A μ) μ a0.tmps ρ0
 closed:∀(i:Nat) (o:Oper) (j:Nat),ops[i]?=some o->Ld listed i->EM o j=true->Ld listed j
 anc:∀k x,E.an k=some x->μ k=some x
 no2:∀(i:Nat) (o:Oper),ops[i]?=some o->(kinds (kb E.c2 ops) ops).getD i 0=2->¬Ld listed i
theorem b0v{ops:Array Oper}{listed:Array Bool}(c:∀(i:Nat) (o:Oper) (j:Nat),ops[i]?=some o->Ld listed i->EM o j=true->Ld listed j){i j:Nat}(h:Reach ops i j):Ld listed i->Ld listed j:=by
 induction h with
 |one h a=>exact λb=>c _ _ _ h b a
 |more h a _ d=>exact λb=>d (c _ _ _ h b a)
theorem b08{ops:Array Oper}{listed:Array Bool}(d:∀(i:Nat) (o:Oper) (j:Nat),ops[i]?=some o->Ld listed i->EM o j=true->Ld listed j){i j:Nat}(h:Reach ops i j){o:Oper}(a:ops[i]?=some o)(c:∀j,EM o j=true->Ld listed j):Ld listed j:=by
 cases h with
 |one h b=>rw[h]at a;cases a;exact c _ b
 |more h b e=>rw[h]at a;cases a;exact b0v d e (c _ b)
structure Fixed (E:Env) (nt:Nat) (ops:Array Oper) (st:St) (ρ0:List Entry) (ps:List PI) (es:List Entry) (own0:List Blk):Prop where
 dr:Draws (kb E.c2 ops) ops
 par:ParOK E nt ops ρ0 st.own own0 ps
 pin:∀q∈ps,ops[q.i]?=some q.o/\(kinds (kb E.c2 ops) ops).getD q.i 0=0
 pall:∀(i:Nat) (o:Oper),ops[i]?=some o->(kinds (kb E.c2 ops) ops).getD i 0=0->∃q∈ps,q.o=o/\q.i=i
 es:∀e,e∈es↔∃q∈ps,q.out=some e
 fno:∀e∈ρ0,e.slot∉KR (kb E.c2 ops) ops
 gno:∀e∈ρ0,∀g b,e.guard=some (g,b)->∀(i:Nat) (o:Oper),ops[i]?=some o->o.dst≠some g
 top:st.own.length<=own0.length
 uni:∀q∈ps,∀q'∈ps,q.i=q'.i->q=q'
variable{listed:Array Bool}{a:Act}{w:World}{μ:Mu}{sd:List Oper}{xs:List Entry}{sr:List (Oper × Nat)}{om:List Blk}
theorem f0m(c:Fixed E nt ops st ρ0 ps es own0)(h:Inv1 E B0 X A w0 nt ops st a0 ρ0 ps es own0 K listed a w μ sd xs sr om){i:Nat}{o:Oper}(r:ops[i]?=some o)(y:(kinds (kb E.c2 ops) ops).getD i 0≠2)(_:(kinds (kb E.c2 ops) ops).getD i 0≠3)(hi:¬Ld listed i)(V:∀j,EM o j=true->Ld listed j)
 {ρ:List Entry} (H:Qi ps ρ0 i ρ):DY w (held A μ) μ a.tmps (MJ (MM ops o) ρ):=by
 intro t e z;obtain⟨B,z⟩:=b02 z;have R:=LG z;rcases H t e z with⟨q,k,C,S⟩|⟨F,W⟩
 .obtain⟨I,p,_,hs,_⟩:=c.par.step q k;have f:q.o.dst=some t:=by
   have:=(Ru hs).1;rw[S]at this;rw[<-this];simp[R]
  obtain⟨J,T⟩:=c.pin q k;have:=c.dr.names i o t q.i q.o r y B J (Nat.ne_of_lt C) f;rw[Ih ⟨C,T⟩]at this;have:=h.ent q k (b08 h.closed this r V);rw[S]at this;exact this
 .have l:=h.env0 t e F;have m:∀u,(∀q∈ps,Ld listed q.i->q.o.dst≠some u)->u∉KR (kb E.c2 ops) ops->(∀s∈sd,s.dst≠some u)->a.tmps.getD u undef=a0.tmps.getD u undef:=h.tmp;have v:a.tmps.getD t undef=a0.tmps.getD t undef:=by
   refine m t (λq k x f=> ?_) (λL=>by
    obtain⟨j,M,N,U,O⟩:=QX.1 L;obtain⟨s,d,f1,f2⟩:=c.dr.free j M N U;have f:d=t:=by have:=OJ f1;rw[O]at this;exact(Jj this).symm
    subst f;exact y ((f2 i o r).2 B).1) (λs hs f=>by
    obtain⟨j,P,dj,x⟩:=h.sdL s hs;have G:j≠i:=λe=>hi (e▸x);have:=c.dr.names i o t j s r y B P G f;rw[Ii Dj]at this;exact hi (b0v h.closed this x))
   obtain⟨J,T⟩:=c.pin q k;have G:q.i≠i:=λe=>hi (e▸x);rcases Nat.lt_or_gt_of_ne G with C|rf
   .obtain⟨I,p,_,hs,_⟩:=c.par.step q k;have Q:=(Ru hs).1;rw[f]at Q;rw[In]at Q;obtain⟨Y,Z,hs'⟩:=Q;exact W q k C Y Z hs'
   .have:=c.dr.names i o t q.i q.o r y B J G f;rw[Ii Dj]at this;exact hi (b0v h.closed this x)
  unfold CK at l⊢;rw[R]at l⊢;split
  .rename_i n;rw[n]at l;simp only at l;rw[v];exact l
  .rename_i g b n;rw[n]at l;simp only at l;have sg:a.tmps.getD g undef=a0.tmps.getD g undef:=m g (λq k _ f=>c.gno e (MO F) g b n q.i q.o (c.pin q k).1 f) (λL=>by
    obtain⟨j,M,N,U,O⟩:=QX.1 L;exact c.gno e (MO F) g b n j M N O) (λs hs f=>by
    obtain⟨j,P,_,_⟩:=h.sdL s hs;exact c.gno e (MO F) g b n j s P f)
   rw[v,sg];exact l
end
section
variable{E:Env}{B0:Nat}{X A:Nat->Prop}{w0:World}{nt:Nat}{ops:Array Oper}{st:St}{a0:Act}{ρ0:List Entry}{ps:List PI}{es:List Entry}{own0:List Blk}{K:St->Prop}
variable{listed:Array Bool}{a:Act}{w:World}{μ:Mu}{sd:List Oper}{xs:List Entry}{sr:List (Oper × Nat)}{om:List Blk}
theorem CR{i j:Nat}(hi:i<listed.size):Ld (listed.setIfInBounds i true) j↔j=i\/Ld listed j:=by
 unfold Ld;by_cases e:j=i
 .subst e;simp[hi]
 .simp[e,L1 (Ne.symm e)]
theorem CK.keep{w w':World}{H H':Nat->Prop}{μ μ':Mu}{tmps:Array Value}{e:Entry}(a:Keeps w w' H H' μ μ')(h:CK w H μ tmps e):CK w' H' μ' tmps e:=by
 unfold CK at h⊢;split at h
 .exact h.keep a
 .exact⟨λb=>(h.1 b).keep a,h.2⟩
theorem Nw{d:Option Nat}{v:Value}{t:Nat}(h:d≠some t):(a.put d v).tmps.getD t undef=a.tmps.getD t undef:=by
 cases d with
 |none=>rfl
 |some d=>
  have b:d≠t:=λe=>h (by rw[e]);simp[Act.put,L1 b]
theorem CK.put{H:Nat->Prop}{e:Entry}{d:Option Nat}{v:Value}(hs:d≠some e.slot)(c:∀g b,e.guard=some (g,b)->d≠some g)(h:CK w H μ a.tmps e):CK w H μ (a.put d v).tmps e:=by
 unfold CK at h⊢;split at h
 .rw[Nw hs];exact h
 .rename_i g b f;rw[Nw hs,Nw (c g b f)];exact h
theorem d50(hE:EnvOK E)(hC:FU E)(c:Fixed E nt ops st ρ0 ps es own0)(h:Inv1 E B0 X A w0 nt ops st a0 ρ0 ps es own0 K listed a w μ sd xs sr om)(bp:listed.size=ops.size){i:Nat}{o:Oper}(ho:ops[i]?=some o)(hk:(kinds (kb E.c2 ops) ops).getD i 0=0)
 (hi:¬Ld listed i) (hr:∀j,EM o j=true->Ld listed j) {U:Act->World->Prop} {Q:Exit->Act->World->Prop}
 (hK:∀a' M G,Inv1 E B0 X A w0 nt ops st a0 ρ0 ps es own0 K (listed.setIfInBounds i true) a' M G sd xs sr om->U a' M):wpOp E.P ops Q i U a w:=by
 have bi:i<listed.size:=F3;obtain⟨q,y,rfl,rfl⟩:=c.pall i o ho hk;have ev:∃J f N p,Qi ps ρ0 q.i J/\PG E nt ops (MJ (MM ops q.o) J) f q.o=some (p,q.out,N)/\p/\(∀(k:Nat) (b:Blk),f[k]?=some b->om[k]?=some b)/\(N=none\/f=q.own/\N=q.al/\om=own0):=by
  rcases h.late with e|hl
  .obtain⟨J,p,h1,V,W⟩:=c.par.step q y;exact⟨J,q.own,q.al,p,h1,V,W,by rw[e];exact(c.par.sub q y).1,.inr ⟨rfl,rfl,e⟩⟩
  .rcases b59 hl q y with⟨s,hs,hw⟩|⟨p,V,W⟩
   .obtain⟨j,hj,_,hL⟩:=h.sdL s hs;exact absurd (h.closed j s q.i hj hL hw) hi
   .exact⟨_,om,none,p,b1d,V,W,λ_ _ h=>h,.inl rfl⟩
 obtain⟨J,f,N,p,Y,hs,hp,be,cz⟩:=ev;have cu:=f0m c h ho Dj Dj hi hr Y;have jm:=(Ru hs).1;have m:=(c28 hE hC h.own h.base be h.glo cu h.size hs hp (λb C=>by
  rcases cz with e|⟨rfl,rfl,rfl⟩
  .rw[e]at C;cases C
  .refine⟨h.fresh _ (c.par.low q y) (λn r hL u I=> ?_),(c.par.sub q y).2 b C⟩;have:=c.par.one n r q y u (by rw[C];rfl) I;exact hi (this▸hL)) (K:=U) (Q:=Q) (λv M G u Z di=>hK _ M G ?_)).2
 .unfold wpOp;rw[ho];simp only;split
  .rename_i hw;rw[Ih hw]at m;exact .inl m
  .rename_i hw;rw[Ii hw]at m;exact m
 .have F:∀t,q.o.dst≠some t->(a.put q.o.dst v).tmps.getD t undef=a.tmps.getD t undef:=λt O=>Nw O;refine⟨u.own,h.len,h.fr.trans u.fr,Ke h.base u.fr.size,LU u.keeps h.glo,by cases q.o.dst<;>exact h.dfr,by cases q.o.dst<;>simp[Act.put,h.size],h.sk,h.late,λs hs=> ?_,λe I=> ?_,h.xsA,λx hx=> ?_,λj o' hj dj R=> ?_,h.srP,
   λn r hL=> ?_,λt O hf z=> ?_,λj o' s d hj dj j9 hL H=> ?_,λk df R=> ?_,h.env0.keep u.keeps,λj o' l hj hL hw=> ?_,λj x hx=>u.keeps.own _ _ (h.anc j x hx),λj o' hj dj hL=> ?_⟩
  .obtain⟨j,hj,dj,hL⟩:=h.sdL s hs;exact Ci
  .obtain⟨e1,e2,s,hs,z⟩:=h.xsE e I;obtain⟨j,hj,dj,_⟩:=h.sdL s hs;refine⟨e1,(CK.keep u.keeps e2).put (λH=> ?_) (λg b S=>by rw[e1]at S;cases S),s,hs,z⟩;have:=c.dr.uniq _ _ _ _ _ ho hj H z;rw[this]at hk;omega
  .obtain⟨x1,x2,x3⟩:=h.srU x hx;refine⟨x1,x2,λhL=> ?_⟩;rcases(CR bi).1 hL with e|hL
   .rw[e]at x2;omega
   .exact x3 hL
  .exact h.srA j o' hj dj (λhL=>R ((CR bi).2 (.inr hL)))
  .rcases(CR bi).1 hL with e|hL
   .rw[c.uni n r q y e];exact di
   .have B:=h.ent n r hL;have T:n.i≠q.i:=λe=>hi (e▸hL);obtain⟨ρ',p',_,hs',_⟩:=c.par.step n r;obtain⟨L,sl2⟩:=Ru hs';unfold Nn at B⊢;split
    .exact Im
    .rename_i e I;rw[I]at B L;simp only at B;refine(CK.keep u.keeps B).put (λH=> ?_) (λg b S H=> ?_)
     .have:n.o.dst=some e.slot:=by rw[<-L];rfl
      exact T (c.dr.uniq _ _ _ _ _ (c.pin n r).1 ho this H)
     .obtain⟨j,p2,jv,hj⟩:=sl2 e I g b S;cases qm:ops[j]? with
      |none=>rw[qm]at hj;cases hj
      |some oj=>
       rw[qm]at hj;have zk:=c.dr.uniq _ _ _ _ _ qm ho hj H;have hw:=c.dr.guard _ _ _ _ (c.pin n r).1 jv;exact hi (zk▸h.closed _ _ _ (c.pin n r).1 hL hw)
  .rw[F t (O q y ((CR bi).2 (.inl rfl)))];exact h.tmp t (λn r hL=>O n r ((CR bi).2 (.inr hL))) hf z
  .have T:j≠q.i:=λe=>by rw[e]at dj;omega
   have pk:Ld listed j:=by
    rcases(CR bi).1 hL with e|hL
    .exact absurd e T
    .exact hL
   rw[F d (λdz=>T (c.dr.uniq _ _ _ _ _ hj ho (OJ j9) dz))];exact h.frd j o' s d hj dj j9 pk H
  .rw[Z k (λC=> ?_)]
   .exact h.fresh k df (λn r hL=>R n r ((CR bi).2 (.inr hL)))
   .rcases cz with e|⟨rfl,rfl,_⟩
    .rw[e]at C;cases C
    .exact λe=>R q y ((CR bi).2 (.inl rfl)) C e.symm
  .rcases(CR bi).1 hL with e|hL
   .subst e;rw[ho]at hj;cases hj;exact(CR bi).2 (.inr (hr l hw))
   .exact Cj
  .rcases(CR bi).1 hL with e|hL
   .subst e;omega
   .exact h.no2 j o' hj dj hL
theorem c84(hC:FU E)(z:Fixed E nt ops st ρ0 ps es own0)(h:Inv1 E B0 X A w0 nt ops st a0 ρ0 ps es own0 K listed a w μ sd xs sr om)(bp:listed.size=ops.size){i:Nat}{o:Oper}(ho:ops[i]?=some o)(J:(kinds (kb E.c2 ops) ops).getD i 0=1)
 (hi:¬Ld listed i) (hr:∀j,EM o j=true->Ld listed j) {Kc:Act->World->Prop} {Q:Exit->Act->World->Prop}
 (hK:∀a' m c sd' xs' sr' om',Inv1 E B0 X A w0 nt ops st a0 ρ0 ps es own0 K (listed.setIfInBounds i true) a' m c sd' xs' sr' om'->Kc a' m):wpOp E.P ops Q i Kc a w:=by
 have bi:i<listed.size:=F3;obtain⟨L,db⟩:=z.dr.store i o ho J;have cf:=h.srA i o ho J hi;have G:=h.sk;have M:=h.srP;have Z:=h.srU;have tr:=h.srA;match sr,cf,G,M,Z,tr with
 |(o',i')::r,cf,G,M,Z,tr=>
  rw[K0]at M;have qp:(o,i)=(o',i'):=by
   rcases Iv.1 cf with e|hm
   .exact e
   .exfalso;have b6:=M.1 _ hm;obtain⟨u1,u2,u3⟩:=Z (o',i') Dm;exact u3 (hr i' (db i' o' u1 b6 u2))
  cases qp;simp only[b8q]at G;split at G;rotate_left
  .exact G.elim
  rename_i p F out B;rw[fO_eq,Tg]at G;obtain⟨hp,I,G⟩:=G;replace hp:=hp.out;have cu:=f0m z h ho Dj Dj hi hr (b1d (ps:=ps) (ρ0:=ρ0) (i:=i));have next:∀(m:World) (c:Mu) (v:Value),Own B0 X A m c F->Fr B0 X w m->Keeps w m (held A μ) (held A c) μ c->(∀k,st.own.length<=k->(∀q∈ps,Ld listed q.i->q.al.isSome=true->q.own.length≠k)->c k=none)->(∀k x,E.an k=some x->c k=some x)->
   F.length=om.length->(out=none/\o.dst=none\/∃d s,o.dst=some d/\out=some ⟨d,none,s⟩/\IP nt o.dst=true/\D m (held A c) c s v)->
   Inv1 E B0 X A w0 nt ops st a0 ρ0 ps es own0 K (listed.setIfInBounds i true) (a.put o.dst v) m c (o::sd) (Ok out xs) r F:=by
   intro m c v n1 n2 n3 n4 n5 n6 n7;have gz:∀e,e∈xs->e∈Ok out xs:=λe u=>by
    unfold Ok;split
    .exact Je _ u
    .exact u
   have R:∀{e:Entry},e∈xs->o.dst≠some e.slot:=λ{e} u f=>by obtain⟨_,_,s,hs,C⟩:=h.xsE e u;obtain⟨j,hj,_,hL⟩:=h.sdL s hs;exact hi (z.dr.uniq _ _ _ _ _ ho hj f C▸hL)
   refine⟨n1,n6.trans h.len,h.fr.trans n2,Ke h.base n2.size,LU n3 h.glo,by cases o.dst<;>exact h.dfr,by cases o.dst<;>simp[Act.put,h.size],G,.inr I,λs hs=> ?_,λe u=> ?_,λs hs d f=> ?_,λx hx=> ?_,λj o' hj dj N=> ?_,M.2,
    λH O hL=> ?_,λt ht hf C=> ?_,λj o' s d hj dj j9 hL f=> ?_,λk df N=>n4 k df (λq S hL=>N q S ((CR bi).2 (.inr hL))),h.env0.keep n3,λj o' l hj hL hw=> ?_,n5,λj o' hj dj hL=> ?_⟩
   .rcases Iv.1 hs with rfl|hs
    .exact⟨i,ho,J,(CR bi).2 (.inl rfl)⟩
    .obtain⟨j,hj,dj,hL⟩:=h.sdL s hs;exact Ci
   .have y:e∈xs->e.guard=none/\CK m (held A c) c (a.put o.dst v).tmps e/\∃s∈o::sd,s.dst=some e.slot:=λu=>by
     obtain⟨e1,e2,s,hs,C⟩:=h.xsE e u;exact⟨e1,(CK.keep n3 e2).put (R u) (λg b L=>by rw[e1]at L;cases L),s,Je _ hs,C⟩
    rcases n7 with⟨rfl,_⟩|⟨d,s,f,rfl,hdo,hv⟩
    .exact y u
    .rcases Iv.1 u with rfl|u
     .refine⟨rfl,?_,o,M3,f⟩;have b6:d<a.tmps.size:=by rw[h.size];simpa[IP,f]using hdo
      rw[f];unfold CK Act.put;simp only;rw[LV b6,Ih rfl];exact hv
     .exact y u
   .rcases Iv.1 hs with rfl|hs
    .rcases n7 with⟨_,h0⟩|⟨d',s',dz,rfl,_,_⟩
     .rw[h0]at f;cases f
     .rw[dz]at f;cases f;exact⟨_,M3,rfl⟩
    .obtain⟨e,u,ra⟩:=h.xsA s hs d f;exact⟨e,gz e u,ra⟩
   .obtain⟨u1,u2,u3⟩:=Z x E4;refine⟨u1,u2,λhL=> ?_⟩;rcases(CR bi).1 hL with e|hL
    .have:=M.1 x hx;simp only at this;omega
    .exact u3 hL
   .have:=tr j o' hj dj (λhL=>N ((CR bi).2 (.inr hL)));rcases Iv.1 this with e|hm
    .cases e;exact absurd ((CR bi).2 (.inl rfl)) N
    .exact hm
   .rcases(CR bi).1 hL with e|hL
    .have:=(z.pin H O).2;rw[e]at this;omega
    .have ba:H.i≠i:=λe=>hi (e▸hL);have y:=h.ent H O hL;obtain⟨ρ',p',_,hs',_⟩:=z.par.step H O;obtain⟨U,sl2⟩:=Ru hs';unfold Nn at y⊢;split
     .exact Im
     .rename_i e u;rw[u]at y U;simp only at y;refine(CK.keep n3 y).put (λf=> ?_) (λg b L f=> ?_)
      .have:H.o.dst=some e.slot:=by rw[<-U];rfl
       exact ba (z.dr.uniq _ _ _ _ _ (z.pin H O).1 ho this f)
      .obtain⟨j,p2,jv,hj⟩:=sl2 e u g b L;cases qm:ops[j]? with
       |none=>rw[qm]at hj;cases hj
       |some oj=>
        rw[qm]at hj;have zk:=z.dr.uniq _ _ _ _ _ qm ho hj f;have hw:=z.dr.guard _ _ _ _ (z.pin H O).1 jv;exact hi (zk▸h.closed _ _ _ (z.pin H O).1 hL hw)
   .rw[Nw (C o M3)];exact h.tmp t (λq S hL=>ht q S ((CR bi).2 (.inr hL))) hf (λs hs=>C s (Je _ hs))
   .have ba:j≠i:=λe=>by rw[e]at dj;omega
    have pk:Ld listed j:=by
     rcases(CR bi).1 hL with e|hL
     .exact absurd e ba
     .exact hL
    rw[Nw (λdz=>ba (z.dr.uniq _ _ _ _ _ hj ho (OJ j9) dz))];exact h.frd j o' s d hj dj j9 pk f
   .rcases(CR bi).1 hL with e|hL
    .subst e;rw[ho]at hj;cases hj;exact(CR bi).2 (.inr (hr l hw))
    .exact Cj
   .rcases(CR bi).1 hL with e|hL
    .subst e;omega
    .exact h.no2 j o' hj dj hL
  unfold wpOp;rw[ho];simp only;rw[Ih (by simp[Region.wanted,L])];refine .inl ?_;unfold c5d at B;split at B
  .rename_i T px xx cx;simp only[Ip]at B;obtain⟨sp,th,sx,ny,rr,B,f⟩:=B;split at f;rotate_left
   .cases f
   rename_i rp;simp only[Hy]at f;obtain⟨rfl,rfl,rfl⟩:=f;have V:=PW (E:=E) (a:=a) (g:=none) (λn s N=>(h.glo n s N).2) cu (λq b e=>Ds);obtain⟨m,bn,W⟩:=b4z h.own (V _ _ th) (V _ _ ny) B hp;have hx:(execOp a.eval o).run E.P w=.ok .skip m:=by simp[execOp,cx,bn]
   unfold Oper.wp;rw[hx];exact hK _ m μ _ _ _ _ (next m μ undef W.own W.fr W.keeps h.fresh h.anc (b64 B) (.inl ⟨rfl,rp⟩))
  .split at B;rotate_left
   .cases B
   rename_i p1 s1 own1 Y;split at B;rotate_left
   .cases B
   rename_i dp;simp only[Jc]at dp;obtain⟨⟨c1,c2⟩,c3⟩:=dp;replace c1:=Nat.eq_of_beq_eq_true c1;replace c2:=Nat.eq_of_beq_eq_true c2;simp only[Hy]at B;obtain⟨rfl,rfl,rfl⟩:=B;have hS:SD E B0 X A w0 nt ⟨MJ (MM ops o) (Sp ps i++ρ0),om⟩ a w μ:=⟨h.own,h.fr,h.base,h.glo,h.dfr,h.size,cu,λk J=>by simp only at J;refine h.fresh k Dj (λq S _ W e=> ?_);have:=z.par.top q S W;rw[<-h.len]at this;omega,h.anc⟩
   refine c0w hC hS (by rw[<-b7d];exact Y) hp (λv m c q1 q2 q3 q4 q5 q6=>hK _ m c _ _ _ _ (next m c v q1 q2 ⟨q3.size,q3.block,q3.less,λk x hx=>q3.own k x Dm hx⟩ (λk J _=>q4 k Dj) q5 Dj ?_));cases f:o.dst with
   |none=>exact .inl ⟨rfl,rfl⟩
   |some d=>exact .inr ⟨d,s1,rfl,rfl,by rw[<-f];exact c3,q6⟩
theorem f17{d:Nat}{v:Value}(h:d<a.tmps.size):(a.put (some d) v).tmps.getD d undef=v:=by simp[Act.put,h]
theorem d5b{d:Nat}{v:Value}(h:d<a.tmps.size->a.tmps.getD d undef=v):a.put (some d) v=a:=by
 have:a.tmps.setIfInBounds d v=a.tmps:=by
  by_cases b:d<a.tmps.size
  .have e:=h b;have c:a.tmps[d]=v:=by
    rw[<-e];simp[Array.getD,b]
   rw[<-c];simp[Array.setIfInBounds,b]
  .simp[Array.setIfInBounds,b]
 unfold Act.put;simp only;rw[this]
theorem c3r{P:Program}{o:Oper}{s d:Nat}(b:Oh o=some (s,d)){c:Act->World->Prop}{Q:Exit->Act->World->Prop}:o.wp P a w c Q↔c (a.put (some d) (a.tmps.getD s undef)) w:=by
 obtain⟨e,_⟩:=b9y b;have f:=OJ b;have hx:(execOp a.eval o).run P w=.ok (.value (a.tmps.getD s undef)) w:=by simp[execOp,e,Act.eval]
 unfold Oper.wp;rw[hx,Oper.upon_value,f]
theorem d1x(c:Fixed E nt ops st ρ0 ps es own0)(h:Inv1 E B0 X A w0 nt ops st a0 ρ0 ps es own0 K listed a w μ sd xs sr om)(bp:listed.size=ops.size){i:Nat}{o:Oper}(ho:ops[i]?=some o)(I:(kinds (kb E.c2 ops) ops).getD i 0=3)
 (hi:¬Ld listed i) (hr:∀j,EM o j=true->Ld listed j) {S:Act->World->Prop} {Q:Exit->Act->World->Prop}
 (hK:∀T U J,Inv1 E B0 X A w0 nt ops st a0 ρ0 ps es own0 K (listed.setIfInBounds i true) T U J sd xs sr om->S T U):wpOp E.P ops Q i S a w:=by
 have bi:i<listed.size:=F3;obtain⟨s,d,hf,L⟩:=c.dr.free i o ho I;have z:=OJ hf;have Pe:d∈KR (kb E.c2 ops) ops:=QX.2 ⟨i,o,ho,I,z⟩;have r:∀{v:Value} t,t≠d->(a.put (some d) v).tmps.getD t undef=a.tmps.getD t undef:=λt M=>Nw (λe=>M (Jj e).symm);have T8:a.tmps.getD s undef=a0.tmps.getD s undef:=h.tmp s (λq f _=>(L q.i q.o (c.pin q f).1).1) (λhD=>by
  obtain⟨j,o',h1,_,h3⟩:=QX.1 hD;exact(L j o' h1).1 h3) (λy hs'=>by
  obtain⟨j,hj,_,_⟩:=h.sdL y hs';exact(L j y hj).1)
 unfold wpOp;rw[ho];simp only;rw[Ih Gn];refine .inl ((c3r hf).2 (hK _ w μ ?_));refine⟨h.own,h.len,h.fr,h.base,h.glo,h.dfr,by simp[Act.put,h.size],h.sk,h.late,λx hx=> ?_,λe C=> ?_,h.xsA,λx hx=> ?_,λj o' hj dj N=> ?_,h.srP,
  λq f hL=> ?_,λt M V m=> ?_,λj o' y W hj dj F hL u=> ?_,λk df N=>h.fresh k df (λq f hL=>N q f ((CR bi).2 (.inr hL))),h.env0,λj o' l hj hL hw=> ?_,h.anc,λj o' hj dj hL=> ?_⟩
 .obtain⟨j,hj,dj,hL⟩:=h.sdL x hx;exact Ci
 .obtain⟨Y,e2,y,hs',m⟩:=h.xsE e C;obtain⟨j,hj,dj,_⟩:=h.sdL y hs';refine⟨Y,e2.put (λu=> ?_) (λg b G=>by rw[Y]at G;cases G),y,hs',m⟩;have:=c.dr.uniq _ _ _ _ _ ho hj (z.trans u) m;rw[this]at I;omega
 .obtain⟨u1,Z,u3⟩:=h.srU x hx;refine⟨u1,Z,λhL=> ?_⟩;rcases(CR bi).1 hL with e|hL
  .rw[e]at Z;omega
  .exact u3 hL
 .exact h.srA j o' hj dj (λhL=>N ((CR bi).2 (.inr hL)))
 .have zm:=(c.pin q f).2;have ba:q.i≠i:=λe=>by rw[e]at zm;omega
  have H:Ld listed q.i:=by
   rcases(CR bi).1 hL with e|hL
   .exact absurd e ba
   .exact hL
  have n:=h.ent q f H;obtain⟨ρ',p',_,hs',_⟩:=c.par.step q f;obtain⟨B,O⟩:=Ru hs';unfold Nn at n⊢;split
  .exact Im
  .rename_i e C;rw[C]at n B;simp only at n;refine n.put (λu=> ?_) (λg b G u=> ?_)
   .have:q.o.dst=some e.slot:=by rw[<-B];rfl
    exact ba (c.dr.uniq _ _ _ _ _ (c.pin q f).1 ho this (z.trans u))
   .obtain⟨j,p2,jv,hj⟩:=O e C g b G;cases qm:ops[j]? with
    |none=>rw[qm]at hj;cases hj
    |some oj=>
     rw[qm]at hj;have zk:=c.dr.uniq _ _ _ _ _ qm ho hj (z.trans u);have hw:=c.dr.guard _ _ _ _ (c.pin q f).1 jv;exact hi (zk▸h.closed _ _ _ (c.pin q f).1 H hw)
 .rw[r t (λe=>V (e▸Pe))];exact h.tmp t (λq f hL=>M q f ((CR bi).2 (.inr hL))) V m
 .by_cases e:j=i
  .subst e;rw[ho]at hj;cases hj;rw[hf]at F;cases F;rw[f17 (by rw[h.size];exact u)];exact T8
  .have H:Ld listed j:=by
    rcases(CR bi).1 hL with R|hL
    .exact absurd R e
    .exact hL
   rw[r W (λR=>e (c.dr.uniq _ _ _ _ _ hj ho (OJ F) (by rw[z,R])))];exact h.frd j o' y W hj dj F H u
 .rcases(CR bi).1 hL with e|hL
  .subst e;rw[ho]at hj;cases hj;exact(CR bi).2 (.inr (hr l hw))
  .exact Cj
 .rcases(CR bi).1 hL with e|hL
  .subst e;omega
  .exact h.no2 j o' hj dj hL
theorem settle(d:Fixed E nt ops st ρ0 ps es own0)(h:Inv1 E B0 X A w0 nt ops st a0 ρ0 ps es own0 K listed a w μ sd xs sr om)(C:∀(i:Nat) (o:Oper),ops[i]?=some o->(kinds (kb E.c2 ops) ops).getD i 0≠2->(kinds (kb E.c2 ops) ops).getD i 0≠3->Ld listed i):
 SD E B0 X A w0 nt ⟨xs++(es++ρ0),om⟩ a w μ/\Xc E (kb E.c2 ops) nt ops K ⟨xs++(es++ρ0),om⟩:=by
 have H:∀q∈ps,Ld listed q.i:=λq c=>C q.i q.o (d.pin q c).1 (by rw[(d.pin q c).2];omega) (by rw[(d.pin q c).2];omega);refine⟨⟨h.own,h.fr,h.base,h.glo,h.dfr,h.size,λt e f=> ?_,λk v=> ?_,h.anc⟩,?_⟩
 .have F:=LG f;simp only at f;rw[b44]at f;split at f
  .rename_i x hx;cases f;exact(h.xsE _ (MO hx)).2.1
  rename_i I;rw[b44]at f;split at f
  .rename_i x hx;cases f;obtain⟨q,c,J⟩:=(d.es _).1 (MO hx);have:=h.ent q c (H q c);rw[J]at this;exact this
  .rename_i L;have l:=h.env0 t e f;have M:∀q∈ps,q.o.dst≠some t:=by
    intro q c m;obtain⟨ρq,p,_,hs,_⟩:=d.par.step q c;have G:=(Ru hs).1;rw[m,In]at G;obtain⟨y,z,hs'⟩:=G;exact b2b.1 L y ((d.es _).2 ⟨q,c,z⟩) hs'
   have u:=h.tmp t (λq c _=>M q c) (by rw[<-F];exact d.fno e (MO f)) (λs hs m=>by obtain⟨y,N,hs'⟩:=h.xsA s hs t m;exact b2b.1 I y N hs')
   unfold CK at l⊢;rw[F]at l⊢;split
   .rename_i n;rw[n]at l;simp only at l;rw[u];exact l
   .rename_i g b n;rw[n]at l;simp only at l;have O:=h.tmp g (λq c _ m=>d.gno e (MO f) g b n q.i q.o (d.pin q c).1 m) (λP=>by
     obtain⟨j,Q,R,h2,S⟩:=QX.1 P;exact d.gno e (MO f) g b n j Q R S) (λs hs m=>by
     obtain⟨j,T,_,_⟩:=h.sdL s hs;exact d.gno e (MO f) g b n j s T m)
    rw[u,O];exact l
 .simp only at v;rw[h.len]at v;refine h.fresh k (Ke d.top v) (λq c _ U e=> ?_);have:=d.par.top q c U;omega
 .have B:sr=[]:=by
   match sr,h.srU with
   | [],_=>rfl
   |x::r,V=>
    obtain⟨W,u2,Y⟩:=V x Dm;exact absurd (C _ _ W Dj Dj) Y
  have:=h.sk;rw[B]at this;exact this
end
theorem b0d(ks:List Nat)(o:Oper):QL ks o<=2:=by
 unfold QL;split
 .exact Bw
 .split<;>decide
theorem c02(ks:List Nat)(o:Oper):b25 ks o<=2:=by
 unfold b25;split
 .exact Bw
 .split
  .exact Bw
  .exact b0d _ _
theorem c0h(ks:List Nat)(o:Oper):b2d ks o<=2:=by
 unfold b2d;split
 .exact Bw
 .split
  .decide
  .split
   .split<;>decide
   .exact b0d _ _
theorem c1d(ops:Array Oper)(ks:List Nat)(o:Oper):b2k ops ks o<=2:=by
 unfold b2k;split
 .exact Bw
 .split
  .decide
  .exact b0d _ _
theorem c1m(b:Nat)(ops:Array Oper)(i:Nat):(d3e b ops).getD i 0<=2:=by
 have:∀(l:List Oper) (a:List Nat),(∀x∈a,x<=2)->∀x∈l.foldl (λa o=>a++[match b with|0=>QL a o|1=>b25 a o|2=>b2d a o|_=>b2k ops a o]) a,x<=2:=by
  intro l;induction l with
  |nil=>intro a h;exact h
  |cons o l c=>
   intro a h;refine c _ (λx hx=> ?_);rcases Jd.1 hx with hx|hx
   .exact h x hx
   .rw[J6.1 hx];split
    .exact b0d _ _
    .exact c02 _ _
    .exact c0h _ _
    .exact c1d _ _ _
 have h:=this ops.toList [] Dm;rw[If];cases e:(d3e b ops)[i]? with
 |none=>simp
 |some x=>exact h x (Ik e)
theorem d8f(b:Nat)(ops:Array Oper)(i:Nat):(kinds b ops).getD i 0<=3:=by
 unfold kinds f02;split
 .have:=c1m b ops i;omega
 .simp only;rw[If,Jb];cases ops.toList.zipIdx[i]? with
  |none=>simp
  |some x=>
   simp only[I9];split
   .exact Bw
   .have:=c1m b ops x.2;omega
theorem b6x{ops:Array Oper}{listed:Array Bool}(bp:listed.size=ops.size)(d:∀(i:Nat) (o:Oper) (j:Nat),ops[i]?=some o->EM o j=true->j<i){i:Nat}(h:i∈Region.ready .any ops listed):∃o,ops[i]?=some o/\¬Ld listed i/\∀j,EM o j=true->Ld listed j:=by
 unfold Region.ready at h;simp only[Jx,Jk,Id]at h;obtain⟨h1,f,a⟩:=h;obtain⟨o,b⟩:∃o,ops[i]?=some o:=⟨ops[i],E9⟩
 refine⟨o,b,by unfold Ld;rw[f];simp,λj c=> ?_⟩;have b6:=d i o j b c;rw[b]at a;simp only[I9]at a;rw[Array.all_eq_true_iff_forall_mem]at a;simp only[EM,J3,Ib]at c;obtain⟨e,g,k,rfl⟩:=c;have:=a e (by simpa using g);rw[k]at this;simp only[Bool.not_true,Mc]at this;unfold Ld;rw[<-this];have l:e.on<listed.size:=Dj;simp[Array.getD,l]
theorem d3p{ops:Array Oper}{listed:Array Bool}(d:∀(i:Nat) (o:Oper) (j:Nat),ops[i]?=some o->EM o j=true->j<i)(bp:listed.size=ops.size)(h:Region.ready .any ops listed=[]):∀(i:Nat) (o:Oper),ops[i]?=some o->Ld listed i:=by
 intro i;induction i using Nat.strongRecOn with
 |_ i f=>
  intro o a;have g:i<ops.size:=(Jt.1 a).1;by_cases b:Ld listed i
  .exact b
  exfalso;have:i∈Region.ready .any ops listed:=by
   unfold Region.ready;simp only[Jx,Jk,Id];refine⟨g,by unfold Ld at b;simpa using b,?_⟩;rw[a];simp only[I9];rw[Array.all_eq_true_iff_forall_mem];intro e k;cases hb:Region.binds .any e with
   |false=>rfl
   |true=>
    have l:EM o e.on=true:=by simp only[EM,J3,Ib];exact⟨e,by simpa using k,hb,rfl⟩
    have m:=d i o _ a l;obtain⟨c,n⟩:∃c,ops[e.on]?=some c:=⟨ops[e.on]'Dj,by simp[show e.on<ops.size from Dj]⟩
    have:=f _ m c n;unfold Ld at this;have q:e.on<listed.size:=Dj;simp[Array.getD,q]at this⊢;exact this
  rw[h]at this;simp at this
section
variable{E:Env}{B0:Nat}{X A:Nat->Prop}{w0:World}{nt:Nat}{ops:Array Oper}{st:St}{a0:Act}{ρ0:List Entry}{ps:List PI}{es:List Entry}{own0:List Blk}{K:St->Prop}
theorem b5m{p:Nat->Bool}{t:Nat}{e:Entry}:∀{ρ:List Entry},BW t (ρ.filter λe=>p e.slot)=some e->BW t ρ=some e
 | [],h=>by simp[BW]at h
 |x::ρ,h=>by
  simp only[List.filter_cons]at h;split at h
  .simp only[BW]at h⊢;split
   .rename_i hx;rw[Ih hx]at h;exact h
   .rename_i hx;rw[Ii hx]at h;exact b5m h
  .rename_i a;have c:=b5m h;simp only[BW];split
   .rename_i hx;exfalso;have:∀{l:List Entry},BW t (l.filter λe=>p e.slot)=some e->p t=true:=by
     intro l b;have hs:=LG b;have:=(Jx.1 (MO b)).2;rw[hs]at this;exact this
    rw[hx]at a;exact a (this h)
   .exact c
theorem b9t{w:World}{H:Nat->Prop}{μ:Mu}{tmps:Array Value}{a:List Nat}{ρ:List Entry}(h:DY w H μ tmps ρ):DY w H μ tmps (ρ.map (NN a)):=by
 intro t e b;rw[So (b0w a),In]at b;obtain⟨d,f,rfl⟩:=b;have c:=h t d f;unfold NN;split
 .split
  .exact .any
  .exact c
 .exact c
theorem d4p{w:World}{H:Nat->Prop}{μ:Mu}{tmps:Array Value}{a:List Nat}{ρ:List Entry}(h:DY w H μ tmps ρ):DY w H μ tmps (ρ.filter λe=> !a.contains e.slot):=
 λt e b=>h t e (b5m (p:=λt=> !a.contains t) b)
theorem b37{c:List Nat}{e:Entry}{g:Nat}{b:Bool}(a:(NN c e).guard=some (g,b)):g∉c:=by
 unfold NN at a;split at a
 .rename_i g' b' d;split at a
  .cases a
  .rename_i f;rw[d]at a;cases a;exact λh=>f (by simpa using h)
 .rename_i i;rw[i]at a;cases a
def NoE(a:List Nat)(ρ:List Entry):Prop:=∀e∈ρ,e.slot∉a/\∀g b,e.guard=some (g,b)->g∉a
theorem d4t{a:List Nat}{ρ:List Entry}:NoE a (PT a ρ):=by intro e c;obtain⟨e0,d,rfl⟩:=J4.1 c;refine⟨?_,λg b f=>b37 f⟩;rw[b0w];simpa using(Jx.1 d).2
theorem f7w{w:World}{H:Nat->Prop}{μ:Mu}{tmps:Array Value}{a:List Nat}{ρ:List Entry}(h:DY w H μ tmps ρ):DY w H μ tmps (PT a ρ):=b9t (d4p h)
theorem c77(ρ:List Entry):PT [] ρ=ρ:=by
 have:∀ρ:List Entry,ρ.map (NN [])=ρ:=by
  intro ρ;induction ρ with
  |nil=>rfl
  |cons e ρ a=>
   have:NN [] e=e:=by
    unfold NN;split
    .simp
    .rfl
   rw[K1,this,a]
 unfold PT;simp only[List.contains_nil,Bool.not_false];rw[List.filter_eq_self.2 (λ_ _=>rfl),this]
theorem SD.drp{a:Act}{w:World}{μ:Mu}{c:List Nat}{b:St}(h:SD E B0 X A w0 nt b a w μ):SD E B0 X A w0 nt ⟨PT c b.ρ,b.own⟩ a w μ:=
 ⟨h.own,h.fr,h.base,h.glo,h.dfr,h.size,f7w h.env,h.fresh,h.anc⟩
theorem wp_put{P:Program}{o:Oper}{a:Act}{w:World}{K:Act->World->Prop}{Q:Exit->Act->World->Prop}(h:o.wp P a w K Q):o.wp P a w (λd c=>K d c/\∃v,d.tmps=(a.put o.dst v).tmps) Q:=by
 unfold Oper.wp at*;generalize (execOp a.eval o).run P w=r at*;have wz:∀v:Value,∃f,(a.put o.dst v).tmps=(a.put o.dst f).tmps:=λv=>⟨v,rfl⟩
 cases r with
 |ok n c=>
  cases n<;>simp only[Oper.upon]at h⊢ <;>
   first
    |exact⟨h,_,rfl⟩
    |exact⟨h,undef,by cases o.dst<;>rfl⟩
    |exact Calls.mono h (λe w'' b=>by cases e<;>first|exact⟨b,_,rfl⟩|exact b)
    |exact Rows.mono h (λ_ _ b=>⟨b,_,rfl⟩)
 |halt x c=>cases x<;>simp only[Oper.upon]at h⊢ <;>exact h
theorem f09(q:EnvOK E)(t:FU E){a:Act}{w:World}{j:St->Prop}:∀(l:List Oper) {b:St} {c:Mu} (r:List Oper),SD E B0 X A w0 nt b a w c->(∀o∈l,∃s d,Oh o=some (s,d)/\(d<nt->a.tmps.getD d undef=a.tmps.getD s undef))->NK E nt ops j (l++r) b->
 ∃f i,SD E B0 X A w0 nt f a w i/\NK E nt ops j r f:=by
 intro l;induction l with
 |nil=>intro b c r h _ e;exact⟨b,c,h,e⟩
 |cons o l u=>
  intro b c r h k e;simp only[L8,Xp]at e;obtain⟨b,c,h,e⟩:=b1b h e;unfold Qo at e;split at e;rotate_left
  .exact e.elim
  rename_i p f hs;rw[St.forceO_eq]at e;obtain⟨s,d,hf,v⟩:=k o Dm;have:=b0m (K:=λm n=>∃g,SD E B0 X A w0 nt f m n g) (Q:=λ_ _ _=>False) q t h hs e.1.out (λm n g h=>⟨g,h⟩);rw[Ih Gn,c3r hf,d5b (λx=>v (by rw[<-h.size];exact x))]at this;obtain⟨i,y⟩:=this;exact u r y (λz B=>k z (by simp[B])) e.2
structure Inv2 (E:Env) (B0:Nat) (X A:Nat->Prop) (w0:World) (nt:Nat) (ops:Array Oper) (K:St->Prop) (listed:Array Bool) (a:Act) (w:World) (μ:Mu) (rest:List ((Oper×Nat)×List (Oper×Nat))) (st':St):Prop where
 sd:SD E B0 X A w0 nt st' a w μ
 sk:Py E (kb E.c2 ops) nt ops (KR (kb E.c2 ops) ops) K rest st'
 no:NoE (KR (kb E.c2 ops) ops) st'.ρ
 low:∀(i:Nat) (o:Oper),ops[i]?=some o->(kinds (kb E.c2 ops) ops).getD i 0≠2->(kinds (kb E.c2 ops) ops).getD i 0≠3->Ld listed i
 mem:∀g∈rest,ops[g.1.2]?=some g.1.1/\(kinds (kb E.c2 ops) ops).getD g.1.2 0=2/\¬Ld listed g.1.2
 grp:∀g∈rest,∀f∈g.2,ops[f.2]?=some f.1/\(kinds (kb E.c2 ops) ops).getD f.2 0=3/\Reach ops g.1.2 f.2
 all:∀(i:Nat) (o:Oper),ops[i]?=some o->(kinds (kb E.c2 ops) ops).getD i 0=2->¬Ld listed i->∃fs,((o,i),fs)∈rest
 pair:rest.Pairwise (λx y=>x.1.2<y.1.2)
 cl:∀(i:Nat) (o:Oper) (j:Nat),ops[i]?=some o->Ld listed i->EM o j=true->Ld listed j
 fr:∀(i:Nat) (o:Oper) (s d:Nat),ops[i]?=some o->(kinds (kb E.c2 ops) ops).getD i 0=3->Oh o=some (s,d)->Ld listed i->d<nt->a.tmps.getD d undef=a.tmps.getD s undef
theorem d2q(hE:EnvOK E)(hC:FU E)(S:Draws (kb E.c2 ops) ops){listed:Array Bool}{a:Act}{w:World}{μ:Mu}{z:List ((Oper×Nat)×List (Oper×Nat))}{W:St}(h:Inv2 E B0 X A w0 nt ops K listed a w μ z W)(bp:listed.size=ops.size){i:Nat}{o:Oper}(ho:ops[i]?=some o)(dw:(kinds (kb E.c2 ops) ops).getD i 0=2)
 (hi:¬Ld listed i) (Y:∀j,EM o j=true->Ld listed j) {Z:Act->World->Prop} {Q:Exit->Act->World->Prop}
 (hK:∀n u b B J,Inv2 E B0 X A w0 nt ops K (listed.setIfInBounds i true) n u b B J->Z n u):wpOp E.P ops Q i Z a w:=by
 have C:i<listed.size:=F3;obtain⟨fs,cf⟩:=h.all i o ho dw hi;have c:=h.sk;have T:=h.mem;have F:=h.pair;have ha:=h.all;have U:=h.grp;match z,cf,c,T,F,ha,U with
 |((q,V),y)::r,cf,c,T,F,ha,U=>
  rw[K0]at F;have qp:((o,i),fs)=((q,V),y):=by
   rcases Iv.1 cf with e|L
   .exact e
   .exfalso;have b6:V<i:=F.1 _ L;obtain⟨G,H,M⟩:=T ((q,V),y) Dm;simp only at H;exact M (b08 h.cl (S.last i o V q ho dw G Dj Dj Dj) ho Y)
  cases qp;simp only[Py]at c;obtain⟨st2,μ2,h2,c⟩:=f09 hE hC (fs.map (·.1)) [o] h.sd (λo1 ta=>by obtain⟨f,hf,rfl⟩:=J4.1 ta;obtain⟨G,H,M⟩:=U ((o,i),fs) Dm f hf;obtain⟨s,d,f1,_⟩:=S.free _ _ G H;exact⟨s,d,f1,h.fr _ _ _ _ G H f1 (b08 h.cl M ho Y)⟩) c
  simp only[Xp]at c;obtain⟨st2,μ2,h2,c⟩:=b1b h2 c;unfold Qo at c;split at c;rotate_left
  .exact c.elim
  rename_i p N hs;simp only[St.force_eq,St.forceO_eq]at c;have l:=b0m (K:=λn u=>∃b,SD E B0 X A w0 nt N n u b) (Q:=Q) hE hC h2 hs c.1.out (λn u b hs'=>⟨b,hs'⟩);have O:∀n u,((∃b,SD E B0 X A w0 nt N n u b)/\∃v,n.tmps=(a.put o.dst v).tmps)->Z n u:=by
   rintro n u ⟨⟨b,hs'⟩,v,hv⟩;refine hK n u b r _ ⟨hs'.drp,c.2,d4t,λj q t hk sc=>(CR C).2 (.inr (h.low j q t hk sc)),λx hx=> ?_,λg tu=>U g (by simp[tu]),λj q t R hn=> ?_,F.2,λj q k t m I=> ?_,λj q s d t R j9 m b6=> ?_⟩
   .obtain⟨G,H,M⟩:=T x E4;refine⟨G,H,λm=> ?_⟩;rcases(CR C).1 m with e|m
    .have:=F.1 x hx;simp only at this;omega
    .exact M m
   .obtain⟨y,L⟩:=ha j q t R (λm=>hn ((CR C).2 (.inr m)));rcases Iv.1 L with e|L
    .cases e;exact absurd ((CR C).2 (.inl rfl)) hn
    .exact⟨y,L⟩
   .refine(CR C).2 (.inr ?_);rcases(CR C).1 m with e|m
    .subst e;rw[ho]at t;cases t;exact Y _ I
    .exact h.cl _ _ _ t m I
   .have ba:j≠i:=λe=>by rw[e]at R;omega
    have pk:Ld listed j:=by
     rcases(CR C).1 m with e|m
     .exact absurd e ba
     .exact m
    obtain⟨s',d',f1,f2⟩:=S.free j q t R;rw[j9]at f1;cases f1;rw[hv,Nw (λe=>ba (S.uniq _ _ _ _ _ t ho (OJ j9) e)),Nw (f2 i o ho).1];exact h.fr j q s d t R j9 pk b6
  unfold wpOp;rw[ho];simp only;split
  .rename_i I;rw[Ih I]at l;exact .inl (Oper.wp_mono O (wp_put l))
  .rename_i I;rw[Ii I]at l;exact O _ _ ⟨l,_,rfl⟩
theorem d47(C:Draws (kb E.c2 ops) ops){listed:Array Bool}{a:Act}{w:World}{μ:Mu}{m:List ((Oper×Nat)×List (Oper×Nat))}{u:St}(h:Inv2 E B0 X A w0 nt ops K listed a w μ m u)(bp:listed.size=ops.size){i:Nat}{o:Oper}(ho:ops[i]?=some o)(z:(kinds (kb E.c2 ops) ops).getD i 0=3)
 (V:∀j,EM o j=true->Ld listed j) {J:Act->World->Prop} {Q:Exit->Act->World->Prop}
 (W:∀L M F n v,Inv2 E B0 X A w0 nt ops K (listed.setIfInBounds i true) L M F n v->J L M):wpOp E.P ops Q i J a w:=by
 have r:i<listed.size:=F3;obtain⟨s,d,hf,n9⟩:=C.free i o ho z;have G:=OJ hf;have N:d∈KR (kb E.c2 ops) ops:=QX.2 ⟨i,o,ho,z,G⟩;unfold wpOp;rw[ho];simp only;rw[Ih Gn];refine .inl ((c3r hf).2 (W _ w μ m u ?_));have l:=h.sd;refine⟨⟨l.own,l.fr,l.base,l.glo,l.dfr,by simp[Act.put,l.size],λt e O=> ?_,l.fresh,l.anc⟩,h.sk,h.no,λj q c z Y=>(CR r).2 (.inr (h.low j q c z Y)),λx hx=> ?_,h.grp,λj q c B Z=>h.all j q c B (λf=>Z ((CR r).2 (.inr f))),h.pair,λj q k c f R=> ?_,λj q S d' c B y f T=> ?_⟩
 .obtain⟨n1,n2⟩:=h.no e (MO O);exact(l.env t e O).put (λH=>n1 (by rw[<-Jj H];exact N)) (λg b hg H=>n2 g b hg (by rw[<-Jj H];exact N))
 .obtain⟨u1,U,u3⟩:=h.mem x hx;refine⟨u1,U,λf=> ?_⟩;rcases(CR r).1 f with e|f
  .rw[e]at U;omega
  .exact u3 f
 .refine(CR r).2 (.inr ?_);rcases(CR r).1 f with e|f
  .subst e;rw[ho]at c;cases c;exact V _ R
  .exact h.cl _ _ _ c f R
 .obtain⟨s1,d1,f1,f2⟩:=C.free j q c B;rw[y]at f1;cases f1;have zj:S≠d:=λe=>(f2 i o ho).1 (by rw[G,e]);rw[Nw (a:=a) (λe=>zj (Jj e).symm)];by_cases e:j=i
  .subst e;rw[ho]at c;cases c;rw[hf]at y;cases y;rw[f17 (by rw[l.size];exact T)]
  .have pk:Ld listed j:=by
    rcases(CR r).1 f with I|f
    .exact absurd I e
    .exact f
   rw[Nw (a:=a) (λI=>e (C.uniq _ _ _ _ _ c ho (OJ y) (by rw[G];exact I)))];exact h.fr j q S d' c B y pk T
def f6x(E:Env)(B0:Nat)(X A:Nat->Prop)(w0:World)(nt:Nat)(ops:Array Oper)(st:St)(a0:Act)(ρ0:List Entry)(ps:List PI)(es:List Entry)(own0:List Blk)(K:St->Prop)(listed:Array Bool)(a:Act)(w:World):Prop:=
 (∃c e f g h,Inv1 E B0 X A w0 nt ops st a0 ρ0 ps es own0 K listed a w c e f g h)\/∃c b d,Inv2 E B0 X A w0 nt ops K listed a w c b d
theorem d9h{ops:Array Oper}(c:HV (kb E.c2 ops) ops 3=[]):∀(l:List ((Oper×Nat)×List (Oper×Nat))) (a:St),(∀g∈l,g.2=[])->NK E nt ops K (l.map (·.1.1)) a->Py E (kb E.c2 ops) nt ops [] K l a:=by
 intro l;induction l with
 |nil=>intro a _ h;simp only[Py,c];exact h
 |cons g l d=>
  intro a b h;simp only[Py,b g Dm,List.map_nil,M8];simp only[K1,Xp]at h⊢;refine c9w (λst=>d5p (λst e=> ?_) st) h;simp only[St.force_eq,c77];exact d _ (λf i=>b f (by simp[i])) e
theorem c8d(j:Draws (kb E.c2 ops) ops){a:St}(h:Xc E (kb E.c2 ops) nt ops K a):Py E (kb E.c2 ops) nt ops (KR (kb E.c2 ops) ops) K (Qu (kb E.c2 ops) ops) ⟨PT (KR (kb E.c2 ops) ops) a.ρ,a.own⟩:=by
 unfold Xc at h;split at h
 .rename_i b;have c:HV (kb E.c2 ops) ops 3=[]:=by
   refine List.eq_nil_iff_forall_not_mem.2 (λx hx=> ?_);obtain⟨e,f⟩:=NP.1 (show (x.1,x.2)∈HV (kb E.c2 ops) ops 3 from hx);obtain⟨s,d,f1,_⟩:=j.free _ _ e f;have:d∈KR (kb E.c2 ops) ops:=QX.2 ⟨x.2,x.1,e,f,OJ f1⟩;rw[b]at this;cases this
  rw[b,c77];refine d9h c _ _ (λg i=> ?_) ?_
  .unfold Qu at i;obtain⟨x,_,rfl⟩:=J4.1 i;simp[c]
  .unfold Qu;rw[Lq];exact h
 .rename_i d ds b;rw[St.force_eq]at h;rw[b];exact h
theorem f04(b:Fixed E nt ops st ρ0 ps es own0){listed:Array Bool}{a:Act}{w:World}{μ:Mu}{sd:List Oper}{xs:List Entry}{B:List (Oper×Nat)}{p:List Blk}(h:Inv1 E B0 X A w0 nt ops st a0 ρ0 ps es own0 K listed a w μ sd xs B p)(r:∀(i:Nat) (o:Oper),ops[i]?=some o->(kinds (kb E.c2 ops) ops).getD i 0≠2->(kinds (kb E.c2 ops) ops).getD i 0≠3->Ld listed i):
 Inv2 E B0 X A w0 nt ops K listed a w μ (Qu (kb E.c2 ops) ops) ⟨PT (KR (kb E.c2 ops) ops) (xs++(es++ρ0)),p⟩:=by
 obtain⟨C,F⟩:=settle b h r;refine⟨C.drp,c8d b.dr F,d4t,r,λx hx=> ?_,λx hx f G=> ?_,λi o c e hn=> ?_,?_,h.closed,λi o s d c e t H I=> ?_⟩
 .unfold Qu at hx;obtain⟨y,k,rfl⟩:=J4.1 hx;obtain⟨g,l⟩:=NP.1 (show (y.1,y.2)∈HV (kb E.c2 ops) ops 2 from k);exact⟨g,l,h.no2 _ _ g l⟩
 .unfold Qu at hx;obtain⟨y,k,rfl⟩:=J4.1 hx;obtain⟨g,l⟩:=NP.1 (show (y.1,y.2)∈HV (kb E.c2 ops) ops 2 from k);obtain⟨m,u⟩:=Jx.1 G;obtain⟨v,z⟩:=NP.1 (show (f.1,f.2)∈HV (kb E.c2 ops) ops 3 from m);refine⟨v,z,?_⟩;obtain⟨s,d,f1,f2⟩:=b.dr.free _ _ v z;rw[OJ f1]at u;exact((f2 _ _ g).2 (by simpa using u)).2
 .exact⟨_,J4.2 ⟨(o,i),NP.2 ⟨c,e⟩,rfl⟩⟩
 .unfold Qu;rw[Kf];exact b1m _ _ _
 .obtain⟨n,d',f1,f2⟩:=b.dr.free _ _ c e;rw[t]at f1;cases f1;rw[h.frd i o s d c e t H I];exact(h.tmp s (λq J _=>(f2 q.i q.o (b.pin q J).1).1) (λL=>by
   obtain⟨j,M,g1,_,N⟩:=QX.1 L;exact(f2 j M g1).1 N) (λn hs'=>by
   obtain⟨j,O,_,_⟩:=h.sdL n hs';exact(f2 j n O).1)).symm
theorem walk(N:EnvOK E)(H:FU E)(n:Fixed E nt ops st ρ0 ps es own0){Q:Exit->Act->World->Prop}(hQ:∀g k l c,SD E B0 X A w0 nt g k l c->K g->Q .normal k l):∀(fuel:Nat) (listed:Array Bool) (U:List Nat) (a:Act) (w:World),
 listed.size=ops.size->(∀(i:Nat) (o:Oper),ops[i]?=some o->¬Ld listed i->i∈U)->U.length<=fuel->f6x E B0 X A w0 nt ops st a0 ρ0 ps es own0 K listed a w->wpAny E.P .any ops Q fuel listed a w:=by
 have C:∀(listed:Array Bool) (a:Act) (w:World),f6x E B0 X A w0 nt ops st a0 ρ0 ps es own0 K listed a w->(∀(i:Nat) (o:Oper),ops[i]?=some o->Ld listed i)->Q .normal a w:=by
  intro listed a w h z;have two:∀{t b g},Inv2 E B0 X A w0 nt ops K listed a w t b g->Q .normal a w:=by
   intro t b g h;have:b=[]:=by
    match b,h.mem with
    | [],_=>rfl
    |x::r,hm=>obtain⟨F,_,u3⟩:=hm x Dm;exact absurd (z _ _ F) u3
   have I:=h.sk;rw[this]at I;simp only[Py]at I;obtain⟨st2,μ2,u,dw⟩:=f09 N H ((HV (kb E.c2 ops) ops 3).map (·.1)) [] h.sd (λo ho=>by obtain⟨f,hf,rfl⟩:=J4.1 ho;obtain⟨F,u2⟩:=NP.1 (show (f.1,f.2)∈HV (kb E.c2 ops) ops 3 from hf);obtain⟨s,d,f1,_⟩:=n.dr.free _ _ F u2;exact⟨s,d,f1,h.fr _ _ _ _ F u2 f1 (z _ _ F)⟩) (by rw[List.append_nil];exact I)
   exact hQ _ _ _ _ u dw
  rcases h with⟨t,O,R,S,T,h⟩|⟨t,b,g,h⟩
  .exact two (f04 n h (λi o ho _ _=>z i o ho))
  .exact two h
 intro fuel;induction fuel with
 |zero=>
  intro listed U a w bp J hl h;have z:∀(i:Nat) (o:Oper),ops[i]?=some o->Ld listed i:=by
   intro i o ho;by_cases L:Ld listed i
   .exact L
   .have:=J i o ho L;rw[L9.1 (by omega:U.length=0)]at this;simp at this
  refine⟨?_,C listed a w h z⟩;refine List.eq_nil_iff_forall_not_mem.2 (λi V=> ?_);obtain⟨o,ho,y,_⟩:=b6x bp n.dr.lt V;exact y (z i o ho)
 |succ fuel ih=>
  intro listed U a w bp J hl h;refine⟨λW=>C listed a w h (d3p n.dr.lt bp W),λi V=> ?_⟩;obtain⟨o,ho,y,B⟩:=b6x bp n.dr.lt V;have Y:=J i o ho y;have bi:i<listed.size:=F3;have next:∀k l,f6x E B0 X A w0 nt ops st a0 ρ0 ps es own0 K (listed.setIfInBounds i true) k l->wpAny E.P .any ops Q fuel (listed.setIfInBounds i true) k l:=by
   intro k l hs;refine ih _ (U.erase i) k l (by simpa using bp) (λj Z hj V4=> ?_) ?_ hs
   .have ba:j≠i:=λe=>V4 ((CR bi).2 (.inl e));exact(List.mem_erase_of_ne ba).2 (J j Z hj (λL=>V4 ((CR bi).2 (.inr L))))
   .rw[List.length_erase_of_mem Y];omega
  have two:∀{t b g},Inv2 E B0 X A w0 nt ops K listed a w t b g->wpOp E.P ops Q i (wpAny E.P .any ops Q fuel (listed.setIfInBounds i true)) a w:=by
   intro t b g h;by_cases M:(kinds (kb E.c2 ops) ops).getD i 0=3
   .exact d47 n.dr h bp ho M B (λk l c m q v=>next k l (.inr ⟨c,m,q,v⟩))
   have u:(kinds (kb E.c2 ops) ops).getD i 0=2:=by
    by_cases u:(kinds (kb E.c2 ops) ops).getD i 0=2
    .exact u
    .exact absurd (h.low i o ho u M) y
   exact d2q N H n.dr h bp ho u y B (λk l c m q v=>next k l (.inr ⟨c,m,q,v⟩))
  rcases h with⟨t,O,R,S,T,h⟩|⟨t,b,g,h⟩
  .have I:=d8f (kb E.c2 ops) ops i;by_cases W:(kinds (kb E.c2 ops) ops).getD i 0=0
   .exact d50 N H n h bp ho W y B (λk l c v=>next k l (.inl ⟨c,O,R,S,T,v⟩))
   by_cases h1:(kinds (kb E.c2 ops) ops).getD i 0=1
   .exact c84 H n h bp ho h1 y B (λk l c sd' xs' sr' om' v=>next k l (.inl ⟨c,sd',xs',sr',om',v⟩))
   by_cases M:(kinds (kb E.c2 ops) ops).getD i 0=3
   .exact d1x n h bp ho M y B (λk l c v=>next k l (.inl ⟨c,O,R,S,T,v⟩))
   have u:(kinds (kb E.c2 ops) ops).getD i 0=2:=Dj;refine two (f04 n h (λj Z hj dj G=>b08 h.closed (n.dr.last i o j Z ho u hj (λe=>dj (e▸u)) (λhc=>dj hc.1) G) ho B))
  .exact two h
theorem c88(L:EnvOK E)(M:FU E)(N:E.P.follows .mixedOrders=true){id:Nat}(O:SK (kb E.c2 ops) ops=true){a:Act}{w:World}{μ:Mu}(h:SD E B0 X A w0 nt st a w μ)(z:Xw E nt ops K st){R:Exit->Act->World->Prop}
 (Q:∀n F G B,SD E B0 X A w0 nt n F G B->K n->R .normal F G):(Code.region id ops true).wp E.P R a w:=by
 have S:=d5y O;refine wp_region_any N ?_;change wpAny E.P .any ops R ops.size (Array.replicate ops.size false) a w.drew;simp only[Xw,d2t,f2f]at z;generalize f:(st.ρ.filter λe=> !(KR (kb E.c2 ops) ops).contains e.slot).map (NN (ops.toList.filterMap (·.dst)))=ρ0 at z;obtain⟨ps,es,own0,H,T,m,U,V,_,r,u⟩:=f7u (base:=st.own) (HV (kb E.c2 ops) ops 0) [] [] st.own z ⟨Dm,Dm,Dm,Dm,λ_ _ h=>h,Dm⟩ Dm Dm Dm (b1m _ _ _) (Ir _) Dm;have I:∀q∈ps,ops[q.i]?=some q.o/\(kinds (kb E.c2 ops) ops).getD q.i 0=0:=by
  intro q C;rcases U q C with h|h
  .simp at h
  .exact NP.1 h
 have W:Fixed E nt ops st ρ0 ps es own0:=by
  refine⟨S,H,I,λi o c m=>V (o,i) (NP.2 ⟨c,m⟩),T,λe l=> ?_,λe l g b Y i o c Z=> ?_,r,u⟩
  .rw[<-f,J4]at l;obtain⟨e0,js,rfl⟩:=l;rw[b0w];simpa using(Jx.1 js).2
  .rw[<-f,J4]at l;obtain⟨e0,_,rfl⟩:=l;exact b37 Y (M2.2 ⟨o,Array.mem_toList_iff.2 (Array.mem_of_getElem? c),Z⟩)
 have v:∀i,i<ops.size->¬Ld (Array.replicate ops.size false) i:=by intro i hi;unfold Ld;simp[hi]
 refine walk (a0:=a) L M W Q ops.size _ (List.range ops.size) a w.drew Dm (λi o c _=>by simpa using(Jt.1 c).1) Dm (.inl ⟨μ,[],[],HV (kb E.c2 ops) ops 1,own0,?_⟩);have lt:∀{i:Nat} {o:Oper},ops[i]?=some o->i<ops.size:=λc=>(Jt.1 c).1;refine⟨(h.own.drew).more H.base,rfl,h.fr.trans Fr.drew,h.base,LU Keeps.drew h.glo,h.dfr,h.size,m,.inl rfl,Dm,Dm,Dm,λx hx=> ?_,λi o c m _=>NP.2 ⟨c,m⟩,b1m _ _ _,
  λq C y=>absurd y (v _ (lt (I q C).1)),λt _ _ _=>rfl,λi o s d c _ _ y=>absurd y (v _ (lt c)),λk m _=>h.fresh k m,?_,λi o j c y=>absurd y (v _ (lt c)),h.anc,λi o c _=>v _ (lt c)⟩
 .obtain⟨J,u2⟩:=NP.1 (show (x.1,x.2)∈HV (kb E.c2 ops) ops 1 from hx);exact⟨J,u2,v _ (lt J)⟩
 .rw[<-f];have l:DY w.drew (held A μ) μ a.tmps st.ρ:=λt e l=>CK.keep Keeps.drew (h.env t e l);exact b9t (d4p l)
end
def addE(ρ:List Entry)(t:Nat)(s:SV):List Entry:=⟨t,none,s⟩::ρ
def OT:List (TypeId×Nat)->List (Nat×(Nat->List SV))->List Blk
 |t::a,r::b=>.row t.1 t.2 r.1 r.2 none::OT a b
 |_,_=>[]
theorem b0c:∀(ts:List (TypeId×Nat)) (a:List (Nat×(Nat->List SV))),ts.length=a.length->(OT ts a).length=ts.length
 | [],[],_=>rfl
 |t::ts,r::a,h=>by simp only[OT,Jy,b0c ts a Dr]
 | [],_::_,h=>Dv
 |_::_,[],h=>Dv
theorem b5g:∀(ts:List (TypeId×Nat)) (a:List (Nat×(Nat->List SV))) (j:Nat) (b:Blk),(OT ts a)[j]?=some b->∃t r,ts[j]?=some t/\a[j]?=some r/\b=.row t.1 t.2 r.1 r.2 none
 | [],_,j,b,h=>by simp[OT]at h
 |_::_,[],j,b,h=>by simp[OT]at h
 |t::ts,r::a,0,b,h=>by simp[OT]at h;exact⟨t,r,rfl,rfl,h.symm⟩
 |t::ts,r::a,j+1,b,h=>by obtain⟨c,d,h1,e,f⟩:=b5g ts a j b (by simpa[OT]using h);exact⟨c,d,Ee,by simpa using e,f⟩
def d1r(E:Env)(t:Nat)(st:St):Option (Prop×St):=match BW t st.ρ with
 |some ⟨_,none,.fp c k i 0⟩=>match st.own[k]? with
  |some (.fam T b n none F)=>match F i with
   |⟨d,a⟩=>if b.length=a.length/\E.ak k=false then
      some (c=true/\i<n,⟨addE st.ρ t (.own st.own.length 0),st.own.set k (.fam T b n (some (i,st.own.length)) F)++ .cells T (d.map (SV.ren0 λj=>some (st.own.length+1+j)))::OT b a⟩)
    else none
  |_=>none
 |_=>none
section
variable{E:Env}{B0:Nat}{X A:Nat->Prop}{w0:World}{nt:Nat}{st:St}{a:Act}{w:World}{μ:Mu}
theorem DY.add{w:World}{H:Nat->Prop}{μ:Mu}{tmps:Array Value}{ρ:List Entry}(h:DY w H μ tmps ρ){t:Nat}{s:SV}(hs:D w H μ s (tmps.getD t undef)):DY w H μ tmps (addE ρ t s):=by
 intro b e a;simp only[addE,BW]at a;split at a
 .rename_i e1;cases a;unfold CK;exact hs
 .exact h b e a
theorem c1b(h:SD E B0 X A w0 nt st a w μ){t:Nat}{pre:Prop}{st':St}(I:d1r E t st=some (pre,st'))(hp:pre):∃d,SD E B0 X A w0 nt st' a w d:=by
 unfold d1r at I;split at I;rotate_left
 .cases I
 rename_i t' ok k i fm;split at I;rotate_left
 .cases I
 rename_i T Z n F hk;split at I;rename_i cs y hF;split at I;rotate_left
 .cases I
 rename_i bf;obtain⟨bf,pe⟩:=bf;simp only[Hy]at I;obtain⟨rfl,rfl⟩:=I;obtain⟨rfl,hi⟩:=hp;have di:=h.env t _ fm;have gu:=LG fm;simp only at gu;subst gu;unfold CK at di;simp only at di;generalize hv:a.tmps.getD t' undef=v at di;cases di with
 |fp Zm=>
 simp only[Jv]at Zm;obtain⟨R,J,b,o,w5,rfl⟩:=Zm;obtain⟨bl,e,bc⟩:=h.own.blk _ _ o;rw[hk]at e;cases e;obtain⟨S,qs',U,P,_⟩:=bc;simp only[Option.map_none]at P;obtain⟨rfl,rfl⟩:=Nd U;obtain⟨b',us,h1,h2,h3⟩:=P.mem i hi;rw[w5]at h1;cases h1;rcases h3 with⟨h3,_⟩|⟨_,z,rfl,V⟩
 .cases h3
 have kg:k<st.own.length:=(Ij.1 hk).1;have bi:i<J.length:=by rw[P.ql];exact hi
 rw[hF]at V;let L:=st.own.length
 let d:Mu:=λj=>if j=k then some (BD R (J.set i []))else if j=L then some (.pointer (some ⟨b,0,none⟩))else if L<j then z[j-L-1]? else μ j
 have m1:d k=some (BD R (J.set i [])):=by simp[d]
 have m2:d L=some (.pointer (some ⟨b,0,none⟩)):=by simp[d,show¬L=k from Dj]
 have m3:∀j,L<j->d j=z[j-L-1]?:=λj f=>by simp[d,show¬j=k from Dj,show¬j=L from Dj,f]
 have m4:∀j,j≠k->j<L->d j=μ j:=λj h1 h2=>by simp[d,h1,show¬j=L from Dj,show¬L<j from Dj]
 have bg:∀{j x},d j=some x->(j=k/\x=BD R (J.set i []))\/(j=L/\x=.pointer (some ⟨b,0,none⟩))\/(L<j/\z[j-L-1]?=some x)\/(j≠k/\j<L/\μ j=some x):=by
  intro j x f;by_cases U:j=k
  .subst U;rw[m1]at f;exact .inl ⟨rfl,(Jj f).symm⟩
  .by_cases e2:j=L
   .subst e2;rw[m2]at f;exact .inr (.inl ⟨rfl,(Jj f).symm⟩)
   .by_cases e3:L<j
    .rw[m3 j e3]at f;exact .inr (.inr (.inl ⟨e3,f⟩))
    .rw[m4 j U Dj]at f;exact .inr (.inr (.inr ⟨U,Dj,f⟩))
 have b7:∀(j:Nat) (u:Value),z[j]?=some u->∃t r,Z[j]?=some t/\y[j]?=some r/\IA w (held A μ) (WM z) u t.1 t.2 r.1 r.2 none:=by intro j u M;have G:j<z.length:=(Ij.1 M).1;have l1:=V.len;have l2:=V.rlen;simp only at l2;have g1:Z[j]?=some (Z[j]'Dj):=Ig _;have g2:y[j]?=some (y[j]'Dj):=Ig _;exact⟨_,_,g1,g2,V.rows j _ _ u g1 g2 M⟩
 have gu:∀(j:Nat) (u:Value),z[j]?=some u->∃a n m,u=.slice a n m:=λj u M=>by obtain⟨_,_,_,_,a,m,e,_⟩:=b7 j u M;exact⟨_,_,_,e⟩
 have B:∀{j x c},d j=some x->CA x c->(∃(N K:Nat) (l:List Value) (u:Value),J[N]?=some l/\l[K]?=some u/\EP u=some c/\((j=k/\N≠i)\/(j=L+K/\N=i)))\/(j≠k/\j<L/\μ j=some x):=by
  intro j x c f hx;rcases bg f with⟨rfl,rfl⟩|⟨rfl,rfl⟩|⟨G,M⟩|h4
  .obtain⟨l,u,g1,g2,q⟩:=MT.1 hx;obtain⟨N,b8⟩:=K5.1 g1;obtain⟨K,Q⟩:=K5.1 g2;obtain⟨U,e2⟩:=Tb b8 Q;exact .inl ⟨N,K,l,u,e2,Q,q,.inl ⟨rfl,U⟩⟩
  .refine .inl ⟨i,0,_,_,h2,rfl,?_,.inr ⟨rfl,rfl⟩⟩;have e:=c3s.1 hx;simp only at e;subst e;rfl
  .obtain⟨a,n,m,rfl⟩:=gu _ _ M;refine .inl ⟨i,j-L,_,_,h2,?_,RS.1 hx,.inr ⟨Dj,rfl⟩⟩;rw[show j-L=(j-L-1)+1 from Dj];simpa using M
  .exact .inr h4
 have cm:∀{N K l u c},J[N]?=some l->l[K]?=some u->EP u=some c->CA (BD R J) c:=λg1 g2 q=>MT.2 ⟨_,_,Ik g1,Ik g2,q⟩;have b9:∀c,held A d c->held A μ c:=by
  rintro c (hc|⟨j,x,f,hx⟩)
  .exact .inl hc
  .rcases B f hx with⟨N,K,l,u,g1,g2,q,_⟩|⟨_,_,Q⟩
   .exact .inr ⟨k,_,o,cm g1 g2 q⟩
   .exact .inr ⟨j,x,Q,hx⟩
 have hμ:∀j x,μ j=some x->(∀R J,x≠BD R J)->d j=some x:=by
  intro j x f hx;have ba:j≠k:=λe=>by subst e;rw[o]at f;exact hx _ _ (Jj f).symm
  have G:j<L:=by
   rcases Mg j L with H|H
   .exact H
   .rw[h.fresh j H]at f;cases f
  rw[m4 j ba G];exact f
 have hf:∀j W qs2,μ j=some (BD W qs2)->∃S qs',d j=some (BD S qs')/\∀(i:Nat) (p:Value),W[i]?=some p->S[i]?=some p:=by
  intro j W qs2 f;by_cases e:j=k
  .subst e;rw[o]at f;obtain⟨rfl,rfl⟩:=Nd (Jj f);exact⟨_,_,m1,λ_ _ h=>h⟩
  .have G:j<L:=by
    rcases Mg j L with H|H
    .exact H
    .rw[h.fresh j H]at f;cases f
   exact⟨_,_,(m4 j e G).trans f,λ_ _ h=>h⟩
 have hd:∀s v,D w (held A μ) μ s v->D w (held A d) d s v:=λs v h=>h.shift b9 hμ hf;refine⟨d,⟨λj x f=> ?_,λj K x x' c f Q hx cw=> ?_,λj x c f hx=> ?_,h.own.bnd⟩,h.fr,h.base,λg s hg=>⟨(h.glo g s hg).1,hd _ _ (h.glo g s hg).2⟩,h.dfr,h.size,(h.env.shift hd).add (by rw[hv];exact .own m2),λj f=> ?_,λj x hx=> ?_⟩
 .rcases bg f with⟨rfl,rfl⟩|⟨rfl,rfl⟩|⟨G,M⟩|⟨ba,G,Q⟩
  .refine⟨.fam T Z n (some (i,L)) F,by rw[It (by simpa using kg)];simp[kg,L],R,J.set i [],rfl,⟨P.pl,by simp[P.ql],λY j1 i2 j2 C l u1 u2 c g1 g2 q O g5 g6=> ?_,λY dq=> ?_⟩,λN c' e=>by cases e;exact⟨_,w5,m2⟩⟩
   .exact P.nd Y j1 i2 j2 C l u1 u2 c (Tb g1 g2).2 g2 q (Tb O g5).2 g5 g6
   .obtain⟨b1,C,g1,g2,q⟩:=P.mem Y dq;by_cases e:i=Y
    .subst e;exact⟨b1,[],g1,Gk,.inl ⟨rfl,rfl⟩⟩
    .refine⟨b1,C,g1,Gm,.inr ⟨λe'=>e (Jj e'),?_⟩⟩;rcases q with⟨q,_⟩|⟨_,us3,e3,O⟩
     .cases q
     .exact⟨us3,e3,O.keep ⟨Ir _,λ_ _ _=>rfl,λc _=>b9 c⟩ (λ_ _ _ _=>rfl)⟩
  .refine⟨_,by rw[Iz (by simp[L]),K4,Ka];rfl,?_⟩;obtain⟨b2,vs,e2,hh,hl,d9,hD⟩:=V.cells;cases e2;refine⟨b,vs,rfl,hh,Dx,d9,λj s v hs hv=> ?_⟩;simp only[I2]at hs;obtain⟨s0,bu,rfl⟩:=hs;have Q0:=hD j s0 v bu hv;have s5:=Iq.1 V.memc s0 (Ik bu);refine VC b9 (λkk jj x nf hx=> ?_) Q0;simp only[J8]at nf;subst nf;rw[m3 _ Dj,show L+1+kk-L-1=kk from Dj];exact hx
  .obtain⟨t,r,g1,g2,q⟩:=b7 _ _ M;refine⟨.row t.1 t.2 r.1 r.2 none,?_,q.shift (λs v pv hs=>GU b9 hs pv)⟩;rw[Iz (by simp[L]at G⊢;omega),K4,show j-st.own.length=(j-L-1)+1 by simp only[L]at G⊢;omega,Kn];have ru:j-L-1<(OT Z y).length:=by rw[b0c _ _ bf];exact(Ij.1 g1).1
   obtain⟨t',r',k1,k2,k3⟩:=b5g Z y _ _ (Ig ru);rw[g1]at k1;rw[g2]at k2;cases k1;cases k2;rw[Ig ru,k3]
  .obtain⟨bl,e,bc⟩:=h.own.blk j x Q;refine⟨bl,?_,bc.shift b9 hμ hf⟩;rw[It (by simpa[L]using G),Iw (Ne.symm ba)];exact e
 .rcases B f hx with⟨Y,j1,C,u1,g1,g2,q,O⟩|⟨g1,g2,q⟩<;>rcases B Q cw with⟨i2,j2,l,u2,k1,k2,k3,k4⟩|⟨k1,k2,k3⟩
  .obtain⟨rfl,rfl⟩:=P.nd Y j1 i2 j2 C l u1 u2 c g1 g2 q k1 k2 k3;rcases O with⟨rfl,O⟩|⟨rfl,O⟩<;>rcases k4 with⟨rfl,k4⟩|⟨rfl,k4⟩
   .rfl
   .exact absurd k4 O
   .exact absurd O k4
   .rfl
  .exact absurd (h.own.inj K k x' _ c k3 o cw (cm g1 g2 q)) k1
  .exact absurd (h.own.inj j k x _ c q o hx (cm k1 k2 k3)) g1
  .exact h.own.inj j K x x' c q k3 hx cw
 .rcases B f hx with⟨Y,j1,C,u1,g1,g2,q,_⟩|⟨_,_,q⟩
  .exact h.own.rng k _ c o (cm g1 g2 q)
  .exact h.own.rng j x c q hx
 .simp only[Jm,K4,Jy,b0c _ _ bf]at f;rw[m3 j (by simp only[L];omega)];exact Km (by rw[V.len];simp only[L];omega)
 .have ba:j≠k:=λe=>Gi;have:=h.anc j x hx;have G:j<L:=by
   rcases Mg j L with H|H
   .exact H
   .rw[h.fresh j H]at this;cases this
  rw[m4 j ba G];exact this
end
def selOK(E:Env)(own:List Blk)(ks:List Nat):Bool:=QP ks&&ks.all (λk=>decide (k<own.length))&&decide (E.na<=ks.length)&&(List.range E.na).all λj=>ks.getD j 0==j
def gSel(E:Env)(ks:List Nat)(st:St):Option (Prop×St):=
 if selOK E st.own ks=true then some (True,⟨st.ρ.map λe=>{e with sv:=e.sv.ren2 λk=>BH k ks},ks.map λk=>(st.own.getD k .dead).ren λk=>BH k ks⟩)else none
section
variable{E:Env}{B0:Nat}{X A:Nat->Prop}{w0:World}{nt:Nat}{st:St}{a:Act}{w:World}{μ:Mu}
theorem c7n(h:SD E B0 X A w0 nt st a w μ){ks:List Nat}{r:Prop}{m:St}(l:gSel E ks st=some (r,m)):∃c,SD E B0 X A w0 nt m a w c:=by
 unfold gSel at l;split at l;rotate_left
 .cases l
 rename_i y;simp only[Hy]at l;obtain⟨_,rfl⟩:=l;simp only[selOK,I3]at y;obtain⟨⟨⟨C,bw⟩,qf⟩,F⟩:=y;have z:=b0s C;let c:Mu:=λj=>(ks[j]?).bind μ
 have n:∀{j x},c j=some x->∃k,ks[j]?=some k/\μ k=some x:=λd=>by simpa[c,Ip]using d
 have u:∀k j x,BH k ks=some j->μ k=some x->c j=some x:=λk j x d i=>by have:=Ol d;simp[c,this,i]
 have o:∀b,held A c b->held A μ b:=by
  rintro b (v|⟨j,x,d,hx⟩)
  .exact .inl v
  .obtain⟨k,_,i⟩:=n d;exact .inr ⟨k,x,i,hx⟩
 refine⟨c,⟨λj x d=> ?_,λj j' x G b d H hx I=> ?_,λj x b d hx=> ?_,h.own.bnd⟩,h.fr,h.base,λg s hs=>⟨(h.glo g s hs).1,GU o (h.glo g s hs).2 (h.glo g s hs).1⟩,h.dfr,h.size,λt e l=> ?_,λj d=> ?_,λj x hx=> ?_⟩
 .obtain⟨k,i,hx⟩:=n d;obtain⟨J,e,v⟩:=h.own.blk k x hx;refine⟨J.ren λk=>BH k ks,?_,v.ren o u⟩;simp[i,e]
 .obtain⟨k,i,K⟩:=n d;obtain⟨L,M,N⟩:=n H;have:=h.own.inj k L x G b K N hx I;subst this;have O:=XT z i;have B:=XT z M;rw[O]at B;cases B;rfl
 .obtain⟨k,_,i⟩:=n d;exact h.own.rng k x b i hx
 .rw[So (f:=λ(e:Entry)=>{e with sv:=e.sv.ren2 λk=>BH k ks}) (λ_=>rfl),In]at l;obtain⟨P,Q,rfl⟩:=l;have:=h.env t P Q;unfold CK at this⊢;simp only;split at this
  .exact YC o u this
  .exact⟨λq=>YC o u (this.1 q),this.2⟩
 .simp only[Jp]at d;have:ks[j]?=none:=Km d;simp[c,this]
 .have R:=Env.ak_lt (Env.an_ak hx);have d:=Iq.1 F j (by simpa using R);have S:ks[j]?=some j:=by
   rw[Ig Dj];simp only[Kx,I6,Ig (show j<ks.length from Dj)]at d;rw[d]
  simp only[c,S,Kw];exact h.anc j x hx
end
def c2m(m:Nat)(T:TypeId)(b:List (TypeId×Nat))(st:St):Option (Prop×St):=match st.own[m]? with
 |some (.map K false a _)=>some (∀q,a q=false,⟨st.ρ,st.own.set m (.pmap K st.own.length (λ_=>false) (λ_=>0))++[.fam T b 0 none (λ_=>⟨[],[]⟩)]⟩)
 |_=>none
section
variable{E:Env}{B0:Nat}{X A:Nat->Prop}{w0:World}{nt:Nat}{st:St}{a:Act}{w:World}{μ:Mu}
theorem b9c(h:SD E B0 X A w0 nt st a w μ){m:Nat}{T:TypeId}{I:List (TypeId×Nat)}{l:Prop}{n:St}(o:c2m m T I st=some (l,n))(R:l):∃z,SD E B0 X A w0 nt n a w z:=by
 unfold c2m at o;split at o;rotate_left
 .cases o
 rename_i K B val J;simp only[Hy]at o;obtain⟨rfl,rfl⟩:=o;have hmlt:m<st.own.length:=(Ij.1 J).1;have S:=h.fresh st.own.length (Ir _);have U:μ.set st.own.length (BD [] []) st.own.length=some (BD [] []):=E3;have f:∀{j x},μ j=some x->μ.set st.own.length (BD [] []) j=some x:=λ{j x} d=>by
  unfold Mu.set;split
  .rename_i e;rw[e,S]at d;cases d
  .exact d
 have t:∀{j x},μ.set st.own.length (BD [] []) j=some x->(j=st.own.length/\x=BD [] [])\/(j≠st.own.length/\μ j=some x):=by
  intro j x d;unfold Mu.set at d;split at d
  .exact .inl ⟨‹_›,(Jj d).symm⟩
  .exact .inr ⟨‹_›,d⟩
 have nohas:∀b,¬CA (BD [] []) b:=λb k=>by obtain⟨V,u,C,_⟩:=MT.1 k;simp at C
 have L:∀b,held A (μ.set st.own.length (BD [] [])) b->held A μ b:=by
  rintro b (k|⟨j,x,d,hx⟩)
  .exact .inl k
  .rcases t d with⟨_,rfl⟩|⟨_,y⟩
   .exact C2
   .exact .inr ⟨j,x,y,hx⟩
 have M:∀s v,D w (held A μ) μ s v->D w (held A (μ.set st.own.length (BD [] []))) (μ.set st.own.length (BD [] [])) s v:=λs v h=>h.shift L (λj x d _=>f d) (λj F G d=>⟨F,G,f d,λ_ _ h=>h⟩);refine⟨_,⟨λj x d=> ?_,λj N x W b d y hx O=> ?_,λj x b d hx=> ?_,h.own.bnd⟩,h.fr,h.base,λg s P=>⟨(h.glo g s P).1,M _ _ (h.glo g s P).2⟩,h.dfr,h.size,h.env.shift M,λj d=> ?_,λj x hx=>f (h.anc j x hx)⟩
 .rcases t d with⟨rfl,rfl⟩|⟨ba,y⟩
  .refine⟨.fam T I 0 none (λ_=>⟨[],[]⟩),Dm,[],[],rfl,⟨rfl,rfl,λi j i' N V us' u u' b C=>by simp at C,λi Y=>absurd Y (Ja _)⟩,λi c e=>Ds⟩
  .obtain⟨Z,e,k⟩:=h.own.blk j x y;have H:j<st.own.length:=(Ij.1 e).1;by_cases Q:j=m
   .subst Q;rw[J]at e;cases e;obtain⟨r,g,rfl,qd,_,_⟩:=k;have:B=λ_=>false:=Md R;subst this;exact⟨.pmap K st.own.length (λ_=>false) (λ_=>0),by rw[It (by simpa using H)];simp[H],⟨_,_,U⟩,r,g,rfl,qd,λq hq=>by cases hq⟩
   .refine⟨Z,by rw[It (by simpa using H),Iw (Ne.symm Q)];exact e,k.shift L (λj x d _=>f d) (λj F G d=>⟨F,G,f d,λ_ _ h=>h⟩)⟩
 .rcases t d with⟨rfl,rfl⟩|⟨_,g1⟩<;>rcases t y with⟨rfl,rfl⟩|⟨_,g2⟩
  .rfl
  .exact C2
  .exact absurd O (nohas b)
  .exact h.own.inj j N x W b g1 g2 hx O
 .rcases t d with⟨rfl,rfl⟩|⟨_,g1⟩
  .exact C2
  .exact h.own.rng j x b g1 hx
 .simp only[I8,K4]at d;unfold Mu.set;rw[Ii Dj];exact C1
end
def Vj(own:List Blk):Nat->List (TypeId×Nat)->Option (List (Nat×(Nat->List SV)))
 |_,[]=>some []
 |c,t::a=>match own[c]? with
  |some (.row T b n f _)=>if T=t.1/\b=t.2 then(Vj own (c+1) a).map λr=>(n,f)::r else none
  |_=>none
theorem b35{own:List Blk}:∀(ts:List (TypeId×Nat)) (c:Nat) (a:List (Nat×(Nat->List SV))),Vj own c ts=some a->a.length=ts.length/\∀(j:Nat) (t:TypeId×Nat),ts[j]?=some t->∃r b,a[j]?=some r/\own[c+j]?=some (.row t.1 t.2 r.1 r.2 b)
 | [],c,a,h=>by simp[Vj]at h;subst h;exact⟨rfl,λj t h=>Dv⟩
 |t::ts,c,a,h=>by
  simp only[Vj]at h;split at h;rotate_left
  .cases h
  rename_i T sz n f b g;split at h;rotate_left
  .cases h
  rename_i e;obtain⟨rfl,rfl⟩:=e;simp only[In]at h;obtain⟨r,i,rfl⟩:=h;obtain⟨h1,k⟩:=b35 ts (c+1) r i;refine⟨E9,λj l ht=> ?_⟩;match j with
  |0=>simp at ht;subst ht;exact⟨(n,f),b,rfl,g⟩
  |j+1=>
   obtain⟨m,d,o,q⟩:=k j l Ev;exact⟨m,d,by simpa using o,by rw[show c+(j+1)=c+1+j from Dj];exact q⟩
def Pj(j:Nat):SV->Bool
 |.osl q=>q==j
 |_=>false
def Tu(c m q:Nat):Option Nat:=if DQ c m q&&decide (c<q)then some (q-c-1)else none
def b91(E:Env)(k:Nat)(st:St):Option (Prop×St):=match st.own[k]? with
 |some (.fam T a n (some (i,c)) F)=>match st.own[c]? with
  |some (.cells h g)=>(Vj st.own (c+1) a).bind λf=>
   if h=T/\(g.map (SV.ren0 (Tu c a.length))).all SV.memc=true/\((List.range a.length).all λj=>(g.map (SV.ren0 (Tu c a.length))).any (Pj j))=true/\DQ c a.length k=false/\((List.range (a.length+1)).all λd=> !E.ak (c+d))=true/\E.ak k=false then
    some (True,⟨st.ρ.map λe=>{e with sv:=e.sv.uf2 c a.length},
     PQ (λq b=>if q=k then .fam T a n none (λj=>if j=i then⟨g.map (SV.ren0 (Tu c a.length)),f⟩else F j)else if DQ c a.length q=true then .dead else b.uf c a.length) 0 st.own⟩)
   else none
  |_=>none
 |_=>none
section
variable{E:Env}{B0:Nat}{X A:Nat->Prop}{w0:World}{nt:Nat}{st:St}{a:Act}{w:World}{μ:Mu}
theorem b61(h:SD E B0 X A w0 nt st a w μ){k:Nat}{pre:Prop}{st':St}(J:b91 E k st=some (pre,st')):∃μ',SD E B0 X A w0 nt st' a w μ':=by
 unfold b91 at J;split at J;rotate_left
 .cases J
 rename_i T Z n i c F hk;split at J;rotate_left
 .cases J
 rename_i Tc cs hc;simp only[Ip]at J;obtain⟨R,hrows,J⟩:=J;split at J;rotate_left
 .cases J
 rename_i dp;obtain⟨rfl,s5,bw,hkr,je,pe⟩:=dp;simp only[Hy]at J;obtain⟨_,rfl⟩:=J;obtain⟨r1,r2⟩:=b35 Z (c+1) R hrows;let m:=Z.length
 have M:∀y,DQ c m y=true->E.ak y=false:=λy hy=>by simp only[DQ,I3]at hy;have:=Iq.1 je (y-c) Du;rw[show c+(y-c)=y from Dj]at this;simpa using this
 have S:∀y,st.own.length<=y->μ y=none:=h.fresh;cases hμk:μ k with
 |none=>
  let μ':Mu:=λy=>if DQ c m y=true then none else μ y
  have U:∀{y x},μ' y=some x->DQ c m y=false/\μ y=some x:=by
   intro y x hy;simp only[μ']at hy;split at hy
   .cases hy
   .exact⟨by simpa using ‹¬ DQ c m y=true›,hy⟩
  have bh:∀{y},DQ c m y=false->μ' y=μ y:=λhy=>by simp[μ',hy]
  have V:∀b,held A μ' b->held A μ b:=by
   rintro b (hb|⟨y,x,hy,hx⟩)
   .exact .inl hb
   .exact .inr ⟨y,x,(U hy).2,hx⟩
  have de:Drop c m (held A μ) (held A μ') μ μ':=⟨V,λy x hy hx _=>by rw[bh hy];exact hx,λy W K hy hx=>⟨W,K,by rw[bh hy];exact hx,λ_ _ h=>h⟩⟩
  refine⟨μ',⟨λy x hy=> ?_,λy y' x O b hy jc=>h.own.inj y y' x O b (U hy).2 (U jc).2,λy x b hy=>h.own.rng y x b (U hy).2,h.own.bnd⟩,h.fr,h.base,λg s L=>⟨(h.glo g s L).1,GU V (h.glo g s L).2 (h.glo g s L).1⟩,h.dfr,h.size,h.env.drop de,λy hy=> ?_,λy x hx=> ?_⟩
  .obtain⟨sb,V5⟩:=U hy;obtain⟨bl,e,hb⟩:=h.own.blk y x V5;have ze:y≠k:=λe=>by subst e;rw[hμk]at V5;cases V5
   refine⟨bl.uf c m,?_,hb.drop de⟩;rw[Vw,e];simp only[Ki,Ju];rw[Ii ze,Ii (by rw[show DQ c Z.length y=DQ c m y from rfl,sb];simp)]
  .rw[Rx]at hy;simp only[μ'];split
   .rfl
   .exact S y hy
  .have:DQ c m y=false:=by
    cases hh:DQ c m y with
    |false=>rfl
    |true=>have:=M y hh;rw[Env.an_ak hx]at this;cases this
   rw[bh this];exact h.anc y x hx
 |some xk=>
 obtain⟨bl,e,bc⟩:=h.own.blk _ _ hμk;rw[hk]at e;cases e;obtain⟨W,K,rfl,cq,hhole⟩:=bc;obtain⟨p,w5,Y⟩:=hhole i c rfl;simp only[Ju]at cq;have hi:i<n:=by rw[<-cq.pl];exact(Ij.1 w5).1
 have bi:i<K.length:=by rw[cq.ql];exact hi
 obtain⟨bl,e,hokc⟩:=h.own.blk _ _ Y;rw[hc]at e;cases e;obtain⟨b,vs,rfl,hh,hl,d9,hd⟩:=hokc;have hslice:∀j,j<m->∃u,μ (c+1+j)=some u/\(∃a n m,u=.slice a n m):=by
  intro j hj;have h1:=Iq.1 bw j (by simpa[m]using hj);simp only[J3,J4]at h1;obtain⟨s,⟨s0,bu,rfl⟩,hs⟩:=h1;obtain⟨ii,Zn⟩:=K5.1 bu;have b6:ii<vs.length:=by rw[hl];exact(Ij.1 Zn).1
  have hD:=hd ii s0 _ Zn (Ig b6);cases s0 with
  |osl q=>
   simp only[SV.ren0,SV.ren00]at hs;split at hs
   .rename_i j' bm;simp only[Pj,Kx]at hs;subst hs;simp only[Tu]at bm;split at bm
    .rename_i hq;simp only[I3]at hq;cases bm;have Q0:=hD;generalize vs[ii]=vv at Q0;cases Q0 with
     |osl ju=>exact⟨_,by rw[show c+1+(q-c-1)=q from Dj];exact ju,_,_,_,rfl⟩
    .cases bm
   .simp[Pj]at hs
  |own q o=>simp only[SV.ren0,SV.ren00]at hs;split at hs<;>simp[Pj]at hs
  |omp q=>simp only[SV.ren0,SV.ren00]at hs;split at hs<;>simp[Pj]at hs
  |oel q sz x o=>simp only[SV.ren0,SV.ren00]at hs;split at hs<;>simp[Pj]at hs
  |fp ok q x o=>simp only[SV.ren0,SV.ren00]at hs;split at hs<;>simp[Pj]at hs
  |clo f cs'=>simp[SV.ren0,Pj]at hs
  |_=>simp[SV.ren0,SV.ren00,Pj]at hs
 let I:List Value:=(List.range m).map λj=>(μ (c+1+j)).getD undef
 have jq:∀j u,I[j]?=some u↔j<m/\μ (c+1+j)=some u:=by
  intro j u;simp only[I,Jb];constructor
  .intro hj;simp only[In]at hj;obtain⟨y,hy,rfl⟩:=hj;obtain⟨sb,rfl⟩:=Ij.1 hy;simp only[List.length_range]at sb;simp only[List.getElem_range];obtain⟨u,hu,_⟩:=hslice j sb;exact⟨sb,by rw[hu];rfl⟩
  .rintro⟨h1,P⟩;rw[Ig Ee];simp[P]
 let l:List Value:=.pointer (some ⟨b,0,none⟩)::I
 let μ':Mu:=λy=>if y=k then some (BD W (K.set i l))else if DQ c m y=true then none else μ y
 have m1:μ' k=some (BD W (K.set i l)):=by simp[μ']
 have m3:∀y,y≠k->DQ c m y=false->μ' y=μ y:=λy h1 P=>by simp[μ',h1,P]
 have U:∀{y x},μ' y=some x->(y=k/\x=BD W (K.set i l))\/(y≠k/\DQ c m y=false/\μ y=some x):=by
  intro y x hy;by_cases e1:y=k
  .exact D1
  .cases C:DQ c m y with
   |true=>simp[μ',e1,C]at hy
   |false=>rw[m3 y e1 C]at hy;exact .inr ⟨e1,rfl,hy⟩
 have f6:∀(j:Nat) (u:Value) (d:Nat),l[j]?=some u->EP u=some d->j<=m/\∃x,μ (c+j)=some x/\CA x d:=by
  intro j u d h1 P;match j with
  |0=>
   simp only[l,Lw,J8]at h1;subst h1;exact⟨Ix _,_,Y,.inl P⟩
  |j+1=>
   simp only[l,Kn]at h1;obtain⟨h3,h4⟩:=(jq j u).1 h1;exact⟨h3,u,by rw[show c+(j+1)=c+1+j from Dj];exact h4,.inl P⟩
 have tv:∀{j},j<=m->DQ c m (c+j)=true:=λhj=>by simp[DQ];omega
 have dn:∀{Q us},(K.set i l)[Q]?=some us->(Q=i/\us=l)\/(Q≠i/\K[Q]?=some us):=by
  intro Q us L;by_cases e:i=Q
  .subst e;rw[Jq bi]at L;exact .inl ⟨rfl,(Jj L).symm⟩
  .rw[Iw e]at L;exact .inr ⟨Ne.symm e,L⟩
 have cm:∀{Q j' N u d},K[Q]?=some N->N[j']?=some u->EP u=some d->CA (BD W K) d:=λg1 G B=>MT.2 ⟨_,_,Ik g1,Ik G,B⟩;have H:∀{y x d},μ' y=some x->CA x d->(y=k/\CA (BD W K) d)\/(y=k/\∃z O,DQ c m z=true/\μ z=some O/\CA O d)\/(y≠k/\DQ c m y=false/\μ y=some x):=by
  intro y x d hy hx;rcases U hy with⟨rfl,rfl⟩|h3
  .obtain⟨N,u,g1,G,B⟩:=MT.1 hx;obtain⟨Q,b8⟩:=K5.1 g1;obtain⟨j',bm⟩:=K5.1 G;rcases dn b8 with⟨rfl,rfl⟩|⟨_,g4⟩
   .obtain⟨g5,O,g6,g7⟩:=f6 j' u d bm B;exact .inr (.inl ⟨rfl,_,O,tv g5,g6,g7⟩)
   .exact .inl ⟨rfl,cm g4 bm B⟩
  .exact .inr (.inr h3)
 have V:∀d,held A μ' d->held A μ d:=by
  rintro d (dz|⟨y,x,hy,hx⟩)
  .exact .inl dz
  .rcases H hy hx with⟨_,h1⟩|⟨_,z,O,_,h1,P⟩|⟨_,_,h3⟩
   .exact .inr ⟨k,_,hμk,h1⟩
   .exact .inr ⟨z,O,h1,P⟩
   .exact .inr ⟨y,x,h3,hx⟩
 have de:Drop c m (held A μ) (held A μ') μ μ':=by
  refine⟨V,λy x hy hx P0=> ?_,λy ps2 qs2 hy hx=> ?_⟩
  .have C:y≠k:=λe=>Hb;rw[m3 y C hy];exact hx
  .by_cases C:y=k
   .subst C;rw[hμk]at hx;obtain⟨rfl,rfl⟩:=Nd (Jj hx);exact⟨_,_,m1,λ_ _ h=>h⟩
   .exact⟨ps2,qs2,(m3 y C hy).trans hx,λ_ _ h=>h⟩
 have zq:∀z,DQ c m z=true->z≠k:=λz hz e=>by subst e;rw[show DQ c m z=DQ c Z.length z from rfl,hkr]at hz;cases hz
 refine⟨μ',⟨λy x hy=> ?_,λy y' x O d hy jc hx cw=> ?_,λy x d hy hx=> ?_,h.own.bnd⟩,h.fr,h.base,λg s L=>⟨(h.glo g s L).1,GU V (h.glo g s L).2 (h.glo g s L).1⟩,h.dfr,h.size,h.env.drop de,λy hy=> ?_,λy x hx=> ?_⟩
 .rcases U hy with⟨rfl,rfl⟩|⟨ze,hyr,jc⟩
  .refine⟨.fam Tc Z n none (λj=>if j=i then⟨cs.map (SV.ren0 (Tu c Z.length)),R⟩else F j),by rw[Vw,hk];simp,W,K.set i l,rfl,⟨cq.pl,by simp[cq.ql],λi1 j1 i2 j2 us1 N u1 u2 d g1 G B g4 g5 g6=> ?_,λi1 dq=> ?_⟩,λi c e=>Ds⟩
   .rcases dn g1 with⟨rfl,rfl⟩|⟨e1,k1⟩<;>rcases dn g4 with⟨rfl,rfl⟩|⟨C,k4⟩
    .obtain⟨a1,x1,a2,a3⟩:=f6 j1 u1 d G B;obtain⟨b1,x2,b2,b3⟩:=f6 j2 u2 d g5 g6;have:=h.own.inj _ _ x1 x2 d a2 b2 a3 b3;exact⟨rfl,Dj⟩
    .obtain⟨a1,x1,a2,a3⟩:=f6 j1 u1 d G B;exact absurd (h.own.inj _ _ x1 _ d a2 hμk a3 (cm k4 g5 g6)) (zq _ (tv a1))
    .obtain⟨a1,x1,a2,a3⟩:=f6 j2 u2 d g5 g6;exact absurd (h.own.inj _ _ x1 _ d a2 hμk a3 (cm k1 G B)) (zq _ (tv a1))
    .exact cq.nd i1 j1 i2 j2 us1 N u1 u2 d k1 G B k4 g5 g6
   .obtain⟨b1,us1,g1,G,B⟩:=cq.mem i1 dq;by_cases e:i1=i
    .subst e;rw[w5]at g1;cases g1;refine⟨b,l,w5,Gk,.inr ⟨Dm,I,rfl,?_⟩⟩;rw[Ih rfl];refine⟨⟨b,vs,rfl,hh,Dx,d9,λj s v hs hv=> ?_⟩,s5,by simp[I,m],r1,λj t r u h1 P h3=> ?_⟩
     .simp only[I2]at hs;obtain⟨s0,bu,rfl⟩:=hs;refine VC V (λkk jj x nf hx=> ?_) (hd j s0 v bu hv);simp only[Tu]at nf;split at nf
      .rename_i hq;simp only[DQ,I3]at hq;cases nf;exact(jq _ _).2 ⟨by simp only[m];omega,by rw[show c+1+(kk-c-1)=kk from Dj];exact hx⟩
      .cases nf
     .obtain⟨h4,h5⟩:=(jq j u).1 h3;obtain⟨r',cp,h6,h7⟩:=r2 j t h1;rw[P]at h6;cases h6;obtain⟨bl,e,hb⟩:=h.own.blk _ _ h5;rw[show c+1+j=c+1+j from rfl,h7]at e;cases e;have:=IA.shift (μ':=WM I) (λs v hp hs=>GU V hs hp) hb;obtain⟨a1,a2,a3,a4,a5,a6,a7,a8⟩:=this;exact⟨a1,a2,a3,a4,a5,.inl rfl,a7,a8⟩
    .refine⟨b1,us1,g1,by rw[Iw (Ne.symm e)];exact G,.inr ⟨Dm,?_⟩⟩;rw[Ii e];rcases B with⟨B,_⟩|⟨_,us3,e3,g4⟩
     .exact absurd (Jj B).symm e
     .exact⟨us3,e3,g4.keep ⟨Ir _,λ_ _ _=>rfl,λd _=>V d⟩ (λ_ _ _ _=>rfl)⟩
  .obtain⟨bl,e,hb⟩:=h.own.blk y x jc;refine⟨bl.uf c m,?_,hb.drop de⟩;rw[Vw,e];simp only[Ki,Ju];rw[Ii ze,Ii (by rw[show DQ c Z.length y=DQ c m y from rfl,hyr];simp)]
 .rcases H hy hx with⟨e1,g1⟩|⟨e1,z,xz,g1,G,B⟩|⟨e1,e1',g1⟩<;>rcases H jc cw with⟨C,k1⟩|⟨C,z',xz',k1,k2,k3⟩|⟨C,e2',k1⟩
  .omega
  .omega
  .exact absurd (h.own.inj y' k _ _ d k1 hμk cw g1) C
  .omega
  .omega
  .have:=h.own.inj y' z _ _ d k1 G cw B;subst this;rw[g1]at e2';cases e2'
  .exact absurd (h.own.inj y k _ _ d g1 hμk hx k1) e1
  .have:=h.own.inj y z' _ _ d g1 k2 hx k3;subst this;rw[k1]at e1';cases e1'
  .exact h.own.inj y y' x O d g1 k1 hx cw
 .rcases H hy hx with⟨e1,g1⟩|⟨e1,z,xz,g1,G,B⟩|⟨e1,e1',g1⟩
  .exact h.own.rng k _ d hμk g1
  .exact h.own.rng z _ d G B
  .exact h.own.rng y x d g1 hx
 .rw[Rx]at hy;have kg:k<st.own.length:=(Ij.1 hk).1;simp only[μ'];rw[Ii Dj];split
  .rfl
  .exact S y hy
 .have e1:y≠k:=λe=>Gi;have C:DQ c m y=false:=by
   cases hh:DQ c m y with
   |false=>rfl
   |true=>have:=M y hh;rw[Env.an_ak hx]at this;cases this
  rw[m3 y e1 C];exact h.anc y x hx
end
def f7t(k:Nat)(st:St):Option (Prop×St):=match st.own[k]? with
 |some (.rowh T a n f c i u)=>if u.all SV.pure then some (True,⟨st.ρ,st.own.set k (.row T a n (λq=>DH (decide (q=i)) u (f q)) c)⟩)else none
 |_=>none
section
variable{E:Env}{B0:Nat}{X A:Nat->Prop}{w0:World}{nt:Nat}{st:St}{a:Act}{w:World}{μ:Mu}
theorem c36(h:SD E B0 X A w0 nt st a w μ){k:Nat}{l:Prop}{g:St}(d:f7t k st=some (l,g)):SD E B0 X A w0 nt g a w μ:=by
 unfold f7t at d;split at d;rotate_left
 .cases d
 rename_i T sz n f c i u t;split at d;rotate_left
 .cases d
 rename_i C;simp only[Hy]at d;obtain⟨_,rfl⟩:=d;have F:k<st.own.length:=(Ij.1 t).1;refine⟨⟨λj x hj=> ?_,h.own.inj,h.own.rng,h.own.bnd⟩,h.fr,h.base,h.glo,h.dfr,h.size,h.env,λj hj=>h.fresh j E8,h.anc⟩;obtain⟨G,e,y⟩:=h.own.blk j x hj;by_cases z:j=k
 .subst z;rw[t]at e;cases e;refine⟨_,by rw[Jq F],?_⟩;obtain⟨b,o,m,H,rfl,I,J,K,hi,L,M,N,O,P,Q,R⟩:=y;refine CT.row_weak (f:=λq=>if q=i then u else f q) (λq=>by have:=WU (decide (q=i)) u (f q);simpa only[Is]using this) ⟨_,m,rfl,I,J,K,λq r=> ?_,.inr ⟨b,o,H,Dj,rfl,N,O,P,λq j s v r hs B=> ?_⟩⟩
  .by_cases e:q=i
   .subst e;simp only[Jv];exact⟨L,C⟩
   .simp only[Ii e];exact M q r e
  .by_cases e:q=i
   .subst e;simp only[Jv]at hs;exact R j s v hs B
   .simp only[Ii e]at hs;exact Q q j s v r e hs B
 .exact⟨G,by rw[Iw (Ne.symm z)];exact e,y⟩
end
def Wu(ops:Array Oper)(done:List Nat):List Nat:=
 (List.range ops.size).filter λi=> !done.contains i&&((ops[i]?).map (λo=>o.after.toList.all λe=> !Region.binds .any e||done.contains e.on)).getD false
def Wl(P:Program){α:Type}(s:Sem α):Prop:=∀w a c,s.run P w=.ok a c->∀b,s.run P b=.ok a b
section
variable{P:Program}{α β:Type}
theorem NC(a:α):Wl P (pure a:Sem α):=λw b w1 h w'=>by simp only[Sem.run_pure,Result.ok.injEq]at h⊢;exact⟨h.1,Im⟩
theorem NE{s:Sem α}{k:α->Sem β}(e:Wl P s)(f:∀a,Wl P (k a)):Wl P (s >>= k):=λw b w1 h c=>by
 rw[K6]at h⊢;cases hs:s.run P w with
 |ok a d=>
  rw[hs]at h;rw[e w a d hs c];exact f a _ _ _ h c
 |halt x d=>rw[hs]at h;cases h
theorem Ry(x:Halt):Wl P (Sem.halt x:Sem α):=λw a w1 h=>by simp[Sem.run]at h
theorem b6z:Wl P program:=λw a w1 h w'=>by simp only[program,Sem.run,Result.ok.injEq]at h⊢;exact⟨h.1,Im⟩
theorem b22(t:TypeId):Wl P (underlying t):=NE b6z λp=>by
 split
 .exact NC _
 .exact Ry _
theorem f65(t:TypeId):Wl P (typeInfo t):=NE b6z λp=>by
 split
 .exact NC _
 .exact Ry _
theorem d36(t:TypeId):Wl P (sizeOf t):=NE (f65 t) λ_=>NC _
def Nv(P:Program)(s:Sem α):Prop:=∀w a b,s.run P w≠.ok a b
theorem Nv.wl{s:Sem α}(h:Nv P s):Wl P s:=λw a b e=>absurd e (h w a b)
theorem b8m{s:Sem α}{k:α->Sem β}(h:∀a,Nv P (k a)):Nv P (s >>= k):=λw b w1 e=>by
 rw[K6]at e;cases hs:s.run P w with
 |ok a c=>rw[hs]at e;exact h a _ _ _ e
 |halt x c=>rw[hs]at e;cases e
theorem d3z(x:Halt):Nv P (Sem.halt x:Sem α):=λw a w1 h=>by simp[Sem.run]at h
theorem nv_rt(e:RuntimeError):Nv P (runtimePanic e:Sem α):=b8m λp=>by
 split;all_goals first
  |exact d3z _
  |exact b8m λ_=>b8m λ_=>d3z _
theorem b9r(k:IntKind)(x y:Int)(c:BoundsCode):Wl P (boundsPanic k x y c:Sem α):=by unfold boundsPanic;dsimp only;split;all_goals exact Nv.wl (b8m λ_=>nv_rt _)
theorem c3t(v:Value):Wl P (asIntOf v):=by
 unfold asIntOf;split
 .exact NC _
 .exact Ry _
 .exact Ry _
theorem d13(v:Value):Wl P (Instr.sureAddr v):=by
 unfold Instr.sureAddr;split
 .exact NC _
 .exact Ry _
theorem d5t(t:TypeId)(x i:Value):Wl P (Instr.indexAt t x i):=by
 unfold Instr.indexAt;refine NE (c3t _) λq=>NE (b22 _) λd=> ?_;dsimp only;repeat' first
  |exact NC _
  |exact Ry _
  |exact b9r _ _ _ _
  |exact d13 _
  |exact b22 _
  |exact d36 _
  |refine NE ?_ λ_=> ?_
  |split
theorem d57(x:Value)(y:Nat)(c:BoundsCode):Wl P (Instr.sliceBound x y c):=by
 unfold Instr.sliceBound;refine NE (c3t _) λq=> ?_;dsimp only;repeat' first
  |exact NC _
  |exact b9r _ _ _ _
  |split
theorem c7m(b:Bool)(n m:Nat)(lo hi mx:Option Value):Wl P (Instr.sliceBounds b n m lo hi mx):=by
 unfold Instr.sliceBounds;dsimp only;repeat' first
  |exact NC _
  |exact Ry _
  |exact d57 _ _ _
  |refine NE ?_ λ_=> ?_
  |split
def UT(P:Program)(o:Oper):Bool:=match o.guard with
 |some _=>false
 |none=>match o.op with
  |.move _=>true
  |.indexAddr _ _ _=>true
  |.slice t _ _ _ _=>match P.underlying t with
   |some (.slice _)=>true
   |_=>false
  |.fieldAddr s _ f=>match P.underlying s with
   |some (.struct a)=>match a[f]? with
    |some b=>match P.info? b.type with
     |some i=> !Nat.beq i.size 0
     |none=>false
    |none=>false
   |_=>false
  |_=>false
theorem c2g{t:TypeId}{d:TypeDesc}{w:World}(h:P.underlying t=some d):(underlying t).run P w=.ok d w:=by simp[underlying,program,Sem.run,h,Result.andThen]
theorem d8n{s:TypeId}{x:Value}{f:Nat}{fs:Array Field}{b:Field}{i:TypeInfo}(e:P.underlying s=some (.struct fs))(g:fs[f]?=some b)(j:P.info? b.type=some i)(k:i.size≠0):Wl P (Instr.fieldAt s x f):=by
 intro w a d h c;unfold Instr.fieldAt at h⊢;rw[K6,c2g e]at h⊢;simp only[Result.andThen,g]at h⊢;have:Wl P (do let a<-Instr.sureAddr x;pure (.pointer (some (<-fieldPlace a b))):Sem Value):=by refine NE (d13 _) λq=>NE ?_ λ_=>NC _;intro w a d h c;unfold fieldPlace at h⊢;rw[K6,GX j]at h⊢;simp only[Result.andThen,Ii k]at h⊢;exact NC _ _ _ _ h c
 exact this w a d h c
theorem d6u{t e:TypeId}{x:Value}{lo hi mx:Option Value}(c:P.underlying t=some (.slice e)):Wl P (Instr.sliceAt t x lo hi mx):=by
 intro w a d h b;unfold Instr.sliceAt at h⊢;rw[K6,c2g c]at h⊢;simp only[Result.andThen]at h⊢;have:Wl P (Instr.slice t x lo hi mx):=by
  intro w a d h b;unfold Instr.slice at h⊢;rw[K6,c2g c]at h⊢;simp only[Result.andThen]at h⊢;cases x
  case slice a n m=>exact(NE (c7m _ _ _ _ _ _) λq=>NE (d36 _) λ_=>NC _:Wl P _) _ _ _ h b
  all_goals simp[stuck]at h
 exact this w a d h b
theorem d0k{o:Oper}(a:UT P o=true){ev:Operand->Value}{w:World}:(∃v,∀c,(execOp ev o).run P c=.ok (.value v) c)\/∃x d,(execOp ev o).run P w=.halt x d:=by
 have b:∀{s:Sem Value},Wl P s->execOp ev o=(do pure (.value (<-s)))->(∃v,∀c,(execOp ev o).run P c=.ok (.value v) c)\/∃x d,(execOp ev o).run P w=.halt x d:=by
  intro s hs e;rw[e,K6];cases hr:s.run P w with
  |ok v d=>
   refine .inl ⟨v,λc=> ?_⟩;rw[K6,hs _ _ _ hr c];simp[Result.andThen]
  |halt x d=>exact .inr ⟨x,d,rfl⟩
 unfold UT at a;split at a
 .cases a
 split at a
 .rename_i x cx;exact b (s:=pure (ev x)) (NC _) G1
 .rename_i t x i cx;exact b (d5t t (ev x) (ev i)) G1
 .rename_i t x lo hi mx cx;split at a
  .rename_i e g;exact b (d6u (lo:=lo.map ev) (hi:=hi.map ev) (mx:=mx.map ev) (x:=ev x) g) G1
  .cases a
 .rename_i s x f cx;split at a
  .rename_i fs j;split at a
   .rename_i fd k;split at a
    .rename_i i l;refine b (d8n (x:=ev x) j k l ?_) G1;intro e;rw[e]at a;cases a
    .cases a
   .cases a
  .cases a
 .cases a
end
def TQ(ops:Array Oper)(x:Oper)(i:Nat):List Oper->Nat->Bool
 | [],_=>true
 |y::r,j=>(Nat.beq j i||EM y i||EM x j||x.apart ops y)&&TQ ops x i r (j+1)
def SA(P:Program)(ops:Array Oper):List Oper->Nat->List Nat
 | [],_=>[]
 |x::r,i=>match UT P x&&TQ ops x i ops.toList 0 with
  |true=>i::SA P ops r (i+1)
  |false=>SA P ops r (i+1)
def d89:List Oper->Bool
 | []=>true
 |o::r=>match o.op with
  |.select _ _=>false
  |_=>d89 r
theorem b9p:∀{l:List Oper},d89 l=true->∀o∈l,∀a b,o.op≠.select a b
 | [],_,o,h,_,_=>Dw
 |x::r,c,o,h,a,b=>by
  unfold d89 at c;split at c
  .cases c
  .rename_i hx;rcases Iv.1 h with rfl|h
   .exact λe=>hx a b e
   .exact b9p c o h a b
def d29(P:Program)(ops:Array Oper):List Nat:=match d89 ops.toList with
 |true=>SA P ops ops.toList 0
 |false=>[]
theorem b6e{ops:Array Oper}{x:Oper}{i:Nat}:∀{l:List Oper} {n:Nat},TQ ops x i l n=true->∀{j y},l[j]?=some y->n+j≠i->EM y i=true\/EM x (n+j)=true\/x.apart ops y=true
 | [],_,_,_,_,h=>Dv
 |z::r,n,a,j,y,h=>by
  unfold TQ at a;rw[Jc]at a;intro b;cases j with
  |zero=>
   simp only[Lw,J8]at h;subst h;simp only[Jn,Nat.beq_eq]at a;rcases a.1 with((h|h)|h)|h
   .exact absurd h b
   .exact .inl h
   .exact .inr (.inl h)
   .exact .inr (.inr h)
  |succ j=>
   have:=b6e a.2 (j:=j) (y:=y) Dr Dj;rw[show n+1+j=n+(j+1)from Dj]at this;exact this
theorem b5s{P:Program}{ops:Array Oper}:∀{l:List Oper} {n i:Nat},i∈SA P ops l n->∃x,n<=i/\l[i-n]?=some x/\UT P x=true/\TQ ops x i ops.toList 0=true
 | [],_,_,h=>by simp[SA]at h
 |z::r,n,i,h=>by
  have a:i∈SA P ops r (n+1)->∃x,n<=i/\(z::r)[i-n]?=some x/\UT P x=true/\TQ ops x i ops.toList 0=true:=λh=>by obtain⟨x,h1,c,d⟩:=b5s h;refine⟨x,Dj,?_,d⟩;rw[show i-n=(i-(n+1))+1 from Dj];simpa using c
  unfold SA at h;split at h
  .rename_i b;rcases Iv.1 h with rfl|h
   .rw[Jc]at b;exact⟨z,Ir _,Dm,b.1,b.2⟩
   .exact a h
  .exact a h
def nxt(ops:Array Oper)(q done:List Nat):List Nat:=match (Wu ops done).find? (λi=>q.contains i)with
 |some i=>[i]
 |none=>Wu ops done
def andL:List Nat->(Nat->Prop)->Prop
 | [],_=>True
 |i::r,f=>f i/\andL r f
theorem c4t{f:Nat->Prop}:∀{l:List Nat},andL l f->∀i∈l,f i
 | [],_,i,a=>by simp at a
 |x::r,h,i,a=>by
  rcases Iv.1 a with rfl|a
  .exact h.1
  .exact c4t h.2 i a
def WW(E:Env)(nt:Nat)(ops:Array Oper)(q:List Nat)(K:St->Prop):Nat->List Nat->St->Prop
 |0,done,a=>match Wu ops done with
  | []=>K a
  |_::_=>False
 |f+1,done,a=>UD (nxt ops q done) λl=>match l with
  | []=>K a
  |i::r=>andL (i::r) λi=>match ops[i]? with
   |some o=>Qy E o (λa=>match d76 E nt ops a o with
    |some (p,b)=>JM p/\b.forceO o (WW E nt ops q K f (i::done))
    |none=>False) a
   |none=>False
def anyQ(E:Env)(nt:Nat)(ops:Array Oper)(K:St->Prop)(st:St):Prop:=UD (d29 E.P ops) λq=>WW E nt ops q K ops.size [] st
structure Rel (ops:Array Oper) (listed:Array Bool) (done:List Nat):Prop where
 size:listed.size=ops.size
 get:∀i,i<ops.size->listed[i]?=some (done.contains i)
 lt:∀i∈done,i<ops.size
theorem f1v{ops:Array Oper}{listed:Array Bool}{done:List Nat}(h:Rel ops listed done):Region.ready .any ops listed=Wu ops done:=by
 unfold Region.ready Wu;apply List.filter_congr;intro i hi;have b:i<ops.size:=Eg;have g:∀j d,listed.getD j d=if j<ops.size then done.contains j else d:=by
  intro j d;split
  .rename_i a;rw[M1,h.get j a];rfl
  .rename_i a;rw[M1,Array.getElem?_eq_none (by rw[h.size];omega)];rfl
 rw[g,Ih b];congr 1;congr 1;have c:∀j,listed.getD j false=done.contains j:=by
  intro j;rw[g];split
  .rfl
  .rename_i a;symm;rw[<-Bool.not_eq_true,List.contains_iff_mem];exact λe=>a (h.lt j e)
 cases ops[i]? with
 |none=>rfl
 |some o=>simp only[Ju,c,Array.all_toList]
theorem Rel.next{ops:Array Oper}{listed:Array Bool}{done:List Nat}(h:Rel ops listed done){i:Nat}(hi:i<ops.size):Rel ops (listed.setIfInBounds i true) (i::done):=by
 refine⟨by simp[h.size],λj a=> ?_,λj a=> ?_⟩
 .by_cases e:i=j
  .subst e;rw[Array.getElem?_setIfInBounds_self_of_lt (by rw[h.size];exact hi)];simp
  .rw[L1 e,h.get j a];congr 1;simp only[List.contains_cons];have:(j==i)=false:=by simpa using Ne.symm e
   rw[this,Mc]
 .rcases Iv.1 a with rfl|a
  .exact hi
  .exact h.lt j a
section
variable{E:Env}{B0:Nat}{X A:Nat->Prop}{w0:World}{nt:Nat}
def TF(R:Exit->Act->World->Prop):Exit->Act->World->Prop
 |.normal,a,w=>R .normal a w
 |_,_,_=>False
theorem d2e(hE:EnvOK E)(hC:FU E){ops:Array Oper}{q:List Nat}(hq:∀i∈q,i∈d29 E.P ops){K:St->Prop}{R:Exit->Act->World->Prop}(hR:∀st a w μ,SD E B0 X A w0 nt st a w μ->K st->R .normal a w):
 ∀(f:Nat) (done:List Nat) (listed:Array Bool) (st:St) (a:Act) (w:World) (μ:Mu),SD E B0 X A w0 nt st a w μ->Rel ops listed done->WW E nt ops q K f done st->wpAny E.P .any ops (TF R) f listed a w:=by
 intro f;induction f with
 |zero=>
  intro done listed st a w μ h t d;simp only[WW]at d;unfold wpAny;rw[f1v t];split at d
  .rename_i e;exact⟨e,hR st a w μ h d⟩
  .exact d.elim
 |succ f ih=>
  intro done listed st a w μ h t d;simp only[WW,b42]at d;have one:∀i∈nxt ops q done,∀o,ops[i]?=some o->∀u:Act->World->Prop,(∀z B,wpAny E.P .any ops (TF R) f (listed.setIfInBounds i true) z B->u z B)->if Region.wanted o (yielded ops a.tmps)then o.wp E.P a w u (TF R)else u (a.put o.dst undef) w:=by
   intro i n o l u L;split at d
   .rename_i e;rw[e]at n;cases n
   rename_i i0 r e;rw[e]at n;have M:=c4t d i n;rw[l]at M;simp only at M;obtain⟨st1,μ1,m,C⟩:=b1b h M;split at C;rotate_left
   .exact C.elim
   rename_i p N hs;rw[St.forceO_eq]at C;have b6:i<ops.size:=(Jt.1 l).1;exact b0m hE hC m hs C.1.out (K:=u) (Q:=TF R) (λz B O S=>L z B (ih _ _ N z B O S (t.next b6) C.2))
  have T:=f1v t;unfold nxt at one d;split at one
  .rename_i i hf;have zi:=List.find?_some hf;have U:=List.mem_of_find?_eq_some hf;have H:=hq i (by simpa using zi);unfold d29 at H;split at H;rotate_left
   .cases H
   rename_i V;obtain⟨o,_,l,I,ju⟩:=b5s H;rw[Nat.sub_zero,Kd]at l;have g:=one i Dm o l (wpAny E.P .any ops (TF R) f (listed.setIfInBounds i true)) (λ_ _ h=>h);have hg:o.guard=none:=by
    unfold UT at I;split at I
    .cases I
    .assumption
   have dm:Region.wanted o (yielded ops a.tmps)=true:=by simp[Region.wanted,hg]
   rw[Ih dm]at g;unfold Oper.wp at g;rcases d0k I (ev:=a.eval) (w:=w)with⟨v,hv⟩|⟨x,w1,hx⟩
   .rw[hv w]at g;refine wpAny_first l (λj o cs b J=>b9p V o (by simpa using Array.mem_of_getElem? J) cs b) (λc a w h=>h) f listed a w (λj oj J ba W Y=> ?_) (by rw[T];exact U) (.inl ⟨dm,hv⟩) g;have m:=b6e ju (j:=j) (y:=oj) (by rw[Kd];exact J) Dj;rw[Ki]at m;have wt:∀{x:Oper} {k:Nat},EM x k=true->∃e∈x.after,Region.binds .any e=true/\e.on=k:=λ{x k} h=>by
     unfold EM at h;rw[J3]at h;obtain⟨e,F,s⟩:=h;rw[Jc,Kx]at s;exact⟨e,by simpa using F,s.1,s.2⟩
    rcases m with m|m|m
    .obtain⟨e,F,s,Z⟩:=wt m;exact absurd Z (Y e F s)
    .obtain⟨e,F,s,Z⟩:=wt m;rw[<-T]at U;obtain⟨_,o',mq,bw⟩:=mem_ready.1 U;rw[l]at mq;cases mq;have G:=bw e F s;rw[Z]at G;have kq:=(Jt.1 J).1;have h3:=t.get j kq;rw[M1,h3]at W G;simp only[K2]at W G;rw[W]at G;cases G
    .exact m
   .rw[hx]at g;unfold Oper.upon at g;split at g<;>first|exact g.elim|(rename_i e;cases e)
  .unfold wpAny;rw[T];refine⟨λe=> ?_,λi n=> ?_⟩
   .rename_i Y;rw[Y]at d;simp only[e]at d;exact hR st a w μ h d
   .have bi:i<ops.size:=by
     have:=Jx.1 (show i∈(List.range ops.size).filter _ from n);simpa using this.1
    have l:ops[i]?=some ops[i]:=Lk bi;have:=one i n _ l _ (λ_ _ h=>h);unfold wpOp;rw[l];simp only;split
    .rename_i g;rw[Ih g]at this;exact .inl this
    .rename_i g;rw[Ii g]at this;exact this
theorem b9m(k:EnvOK E)(l:FU E)(m:E.P.follows .mixedOrders=true){id:Nat}{ops:Array Oper}{K:St->Prop}{st:St}{a:Act}{w:World}{μ:Mu}(h:SD E B0 X A w0 nt st a w μ)(c:anyQ E nt ops K st){R:Exit->Act->World->Prop}
 (n:∀b g j d,SD E B0 X A w0 nt b g j d->K b->R .normal g j):(Code.region id ops true).wp E.P R a w:=by
 refine Code.wp_mono (Q:=TF R) (λe a w h=> ?_) (wp_region_any m ?_)
 .cases e<;>first|exact h|exact h.elim
 change wpAny E.P .any ops (TF R) ops.size (Array.replicate ops.size false) a w.drew;unfold anyQ at c;rw[b42]at c;refine d2e k l (λi f=>f) n ops.size [] _ st a w.drew μ ⟨h.own.drew,h.fr.trans Fr.drew,h.base,LU Keeps.drew h.glo,h.dfr,h.size,h.env.keep Keeps.drew,h.fresh,h.anc⟩ ⟨Dm,λi f=>by simp[f],Dm⟩ c
end
structure Post where
 n:St->Prop
 x:Nat->St->Prop
 r:St->Prop
inductive NL where
 |slot (t:Nat) (T:TypeId) (sz:Nat)
 |cell (k o:Nat) (T:TypeId) (sz:Nat)
def d9b:SV->Bool
 |.con (.slice none 0 0)=>true
 |_=>false
theorem c51{s:SV}(h:d9b s=true):s=.con (.slice none 0 0):=by
 unfold d9b at h;split at h
 .rfl
 .cases h
def Vf(n:NL)(st:St):St:=match n with
 |.slot t T a=>match BW t st.ρ with
  |some e=>match e.guard with
   |none=>match d9b e.sv with
    |true=>⟨⟨t,none,.osl st.own.length⟩::st.ρ,st.own++[.row T a 0 (λ_=>[]) none]⟩
    |false=>st
   |some _=>st
  |none=>st
 |.cell k o T a=>match st.own[k]? with
  |some (.cells c b)=>match b[o]? with
   |some s=>match d9b s with
    |true=>⟨st.ρ,st.own.set k (.cells c (b.set o (.osl st.own.length)))++[.row T a 0 (λ_=>[]) none]⟩
    |false=>st
   |none=>st
  |_=>st
def nilL:List NL->St->St
 | [],st=>st
 |n::r,st=>nilL r (Vf n st)
section
variable{E:Env}{B0:Nat}{X A:Nat->Prop}{w0:World}{nt:Nat}{st:St}{a:Act}{w:World}{μ:Mu}
theorem b6r(h:SD E B0 X A w0 nt st a w μ)(n:NL):∃l,SD E B0 X A w0 nt (Vf n st) a w l:=by
 have q:μ st.own.length=none:=h.fresh _ (Ir _);have r:∀(T:TypeId) (sz:Nat),Own B0 X A w (μ.set st.own.length (.slice none 0 0)) (st.own++[.row T sz 0 (λ_=>[]) none])/\Keeps w w (held A μ) (held A (μ.set st.own.length (.slice none 0 0))) μ (μ.set st.own.length (.slice none 0 0)):=
  λT sz=>b9b (e:=T) (sz:=sz) (f:=λ_=>[]) (h.own.more Ua) q Dm
 have u:∀k,st.own.length+1<=k->(μ.set st.own.length (.slice none 0 0)) k=none:=λk d=>by unfold Mu.set;rw[if_neg Dj];exact h.fresh k Dj
 have y:∀j x,E.an j=some x->(μ.set st.own.length (.slice none 0 0)) j=some x:=λj x hx=>by have:=h.anc j x hx;unfold Mu.set;rw[Ii (λe=>by rw[e,q]at this;cases this)];exact this
 have z:(μ.set st.own.length (.slice none 0 0)) st.own.length=some (.slice none 0 0):=E3;cases n with
 |slot t T sz=>
  simp only[Vf];split;rotate_left
  .exact⟨μ,h⟩
  rename_i e B;split;rotate_left
  .exact⟨μ,h⟩
  rename_i K;split;rotate_left
  .exact⟨μ,h⟩
  rename_i hs;obtain⟨o1,o2⟩:=r T sz;refine⟨_,o1,h.fr,h.base,LU o2 h.glo,h.dfr,h.size,λL M g=> ?_,λk d=>u k (by simpa using d),y⟩;simp only[BW]at g;split at g
  .rename_i c;cases g;subst c;have:=h.env t e B;unfold CK at this⊢;rw[K]at this;simp only at this⊢;rw[LG B]at this;rw[c51 hs]at this;generalize a.tmps.getD t undef=v at this;cases this;exact .osl z
  .exact(h.env.keep o2) L M g
 |cell k o T sz=>
  simp only[Vf];split;rotate_left
  .exact⟨μ,h⟩
  rename_i N C F;split;rotate_left
  .exact⟨μ,h⟩
  rename_i s hs;split;rotate_left
  .exact⟨μ,h⟩
  rename_i O;obtain⟨o1,o2⟩:=r T sz;have m:k<st.own.length:=(Ij.1 F).1;refine⟨_,⟨λj x P=> ?_,o1.inj,o1.rng,o1.bnd⟩,h.fr,h.base,LU o2 h.glo,h.dfr,h.size,h.env.keep o2,λk d=>u k (by simpa using d),y⟩;obtain⟨Q,c,G⟩:=o1.blk j x P;by_cases e:j=k
  .subst e;rw[It m,F]at c;cases c;refine⟨.cells N (C.set o (.osl st.own.length)),by rw[It (by simpa using m)];simp[m],?_⟩;obtain⟨b,R,rfl,S,hl,U,H⟩:=G;refine⟨b,R,rfl,S,Dx,U,λi V v hs' I=> ?_⟩;by_cases J:i=o
   .subst J;have:=H i s v hs I;rw[c51 O]at this;have W:i<C.length:=(Ij.1 hs).1;rw[Jq W]at hs';cases hs';cases this;exact .osl z
   .rw[Iw (Ne.symm J)]at hs';exact H i V v hs' I
  .refine⟨Q,?_,G⟩;by_cases bm:j<st.own.length
   .rw[It bm]at c;rw[It Fc,Iw (Ne.symm e)];exact c
   .rw[Iz Dj]at c;rw[Iz Fc];simpa using c
theorem c8n(l:List NL):∀{st:St} {μ:Mu},SD E B0 X A w0 nt st a w μ->∃b,SD E B0 X A w0 nt (nilL l st) a w b:=by
 induction l with
 |nil=>intro st μ h;exact⟨μ,h⟩
 |cons n l c=>intro st μ h;obtain⟨b,d⟩:=b6r h n;exact c d
end
theorem c3h{E:Env}{B0:Nat}{X A:Nat->Prop}{w0:World}{nt:Nat}{st:St}{a:Act}{w:World}{μ:Mu}(h:SD E B0 X A w0 nt st a w μ){l:List Nat}:SD E B0 X A w0 nt ⟨MJ l st.ρ,st.own⟩ a w μ:=
 ⟨h.own,h.fr,h.base,h.glo,h.dfr,h.size,λt e b=>h.env t e (b02 b).2,h.fresh,h.anc⟩
def gk(l:List Nat)(_:Nat):List Ghost:=[.keep l]
def f5a(E:Env)(g:Ghost)(st:St):Option (Prop×St):=match g with
 |.focus t=>d1r E t st
 |.unfocus k=>b91 E k st
 |.newFam m T c=>c2m m T c st
 |.nil t T a=>some (True,Vf (.slot t T a) st)
 |.sel d=>gSel E d st
 |.fz k=>some (True,st.fz E k)
 |.keep l=>some (True,⟨MJ l st.ρ,st.own⟩)
 |.flat k=>f7t k st
 |.poolN T a t=>(d15 T a t st).map λs=>(True,s)
 |.poolTake k j p t b=>b57 E k j p t b st
 |.poolSeal k j p b=>b4n E k j p b st
 |.orders|.two _|.poolPut _ _ _=>none
theorem c38{E:Env}{B0:Nat}{X A:Nat->Prop}{w0:World}{nt:Nat}{st:St}{a:Act}{w:World}{μ:Mu}(h:SD E B0 X A w0 nt st a w μ){g:Ghost}{c:Prop}{d:St}(b:f5a E g st=some (c,d))(e:c):∃f,SD E B0 X A w0 nt d a w f:=by
 cases g with
 |focus t=>exact c1b h b e
 |unfocus k=>exact b61 h b
 |newFam m T Ts=>exact b9c h b e
 |nil t T n=>cases b;exact b6r h _
 |sel ks=>exact c7n h b
 |fz k=>cases b;exact c6w h k
 |keep l=>cases b;exact⟨μ,c3h h⟩
 |flat k=>exact⟨μ,c36 h b⟩
 |orders=>cases b
 |two t=>cases b
 |poolN T n t=>
  simp only[f5a,Hx]at b;obtain⟨s,hs,_,rfl⟩:=b;exact b9w h hs
 |poolPut t p i=>cases b
 |poolTake k j p t i=>exact b5y h b e
 |poolSeal k j p i=>exact b4g h b e
def Ub(p q:Prop):Prop:=p->q
theorem Ub.mk{p q:Prop}(h:p->q):Ub p q:=h
theorem Ub.out{p q:Prop}(h:Ub p q):p->q:=h
attribute [irreducible] Ub
def two(t:Nat)(st:St):Option (Int×St×St):=match BW t st.ρ with
 |some ⟨_,none,.int k x⟩=>some (x,⟨⟨t,none,.int k 0⟩::st.ρ,st.own⟩,⟨⟨t,none,.int k 1⟩::st.ρ,st.own⟩)
 |_=>none
theorem c0k{E:Env}{B0:Nat}{X A:Nat->Prop}{w0:World}{nt:Nat}{st:St}{a:Act}{w:World}{μ:Mu}(h:SD E B0 X A w0 nt st a w μ){t:Nat}{k:IntKind}{x:Int}{n:Nat}(c:BW t st.ρ=some ⟨n,none,.int k x⟩):SD E B0 X A w0 nt ⟨⟨t,none,.int k x⟩::st.ρ,st.own⟩ a w μ:=by
 refine⟨h.own,h.fr,h.base,h.glo,h.dfr,h.size,λd e b=> ?_,h.fresh,h.anc⟩;simp only[BW]at b;split at b
 .rename_i ht;cases b;have f:=h.env t _ c;have hs:=LG c;simp only at hs;subst hs;exact f
 .exact h.env d e b
def Pg(E:Env)(K:St->Prop):List Ghost->St->Prop
 | [],st=>K st
 |.two t::a,st=>match two t st with
  |some (x,c,d)=>JM (x=0\/x=1)/\Ub (x=0) (c.force (Pg E K a))/\Ub (x=1) (d.force (Pg E K a))
  |none=>False
 |.poolPut t p e::a,st=>match b3m E t p e st with
  |some F=>Oo λv=>(F v.val).force (Pg E K a)
  |none=>False
 |g::a,st=>match f5a E g st with
  |some (p,b)=>JM p/\b.force (Pg E K a)
  |none=>False
def Nk(E:Env)(K:St->Prop):List Ghost->St->Prop
 | []=>K
 |g::a=>Pg E K (g::a)
theorem Vk{E:Env}{B0:Nat}{X A:Nat->Prop}{w0:World}{nt:Nat}{a:Act}{w:World}{K:St->Prop}:∀(j:List Ghost) {st:St} {μ:Mu},SD E B0 X A w0 nt st a w μ->Pg E K j st->∃d e,SD E B0 X A w0 nt d a w e/\K d:=by
 intro j;induction j with
 |nil=>intro st μ h b;exact⟨st,μ,h,b⟩
 |cons g j l=>
  intro st μ h b;unfold Pg at b;split at b
  .cases ‹List.cons _ _=[]›
  .rename_i t f i;cases i;split at b
   .rename_i x s0 s1 c;simp only[St.force_eq]at b;obtain⟨hx,r,s⟩:=b;unfold two at c;split at c
    .rename_i n k y o;cases c;rcases hx.out with rfl|rfl
     .exact l (c0k h o) (r.out rfl)
     .exact l (c0k h o) (s.out rfl)
    .cases c
   .exact b.elim
  .rename_i t p wt f i;cases i;split at b
   .rename_i F c;obtain⟨v,e,m⟩:=b1h h c;have q:=b.out v;rw[St.force_eq]at q;exact l m q
   .exact b.elim
  .rename_i g' f _ _ i;cases i;split at b
   .rename_i p d c;rw[St.force_eq]at b;obtain⟨e,m⟩:=c38 h c b.1.out;exact l m b.2
   .exact b.elim
structure Inv where
 β:Type
 st:β->St
 ok:β->Prop
 μ:β->Nat
 nl:List NL:=[]
 sub:β->Option (Nat->Option Inv):=λ_=>none
 un:Option Nat:=none
def Xg(F:Post->St->Prop)(Q:Post):Nat->St->Prop
 |0,_=>False
 |n+1,st=>F ⟨Xg F Q n,Q.x,Q.r⟩ st
def Br(b:Bool)(p q:Prop):Prop:=match b with
 |true=>p
 |false=>q
theorem Br.mk{b:Bool}{p q:Prop}(h:b=true->p)(k:b=false->q):Br b p q:=by cases b;exact k rfl;exact h rfl
theorem Br.t{p q:Prop}(h:Br true p q):p:=h
theorem Br.f{p q:Prop}(h:Br false p q):q:=h
theorem Br.litT{b:Bool}{p q:Prop}(h:b=true)(a:p):Br b p q:=by subst h;exact a
theorem Br.litF{b:Bool}{p q:Prop}(h:b=false)(a:q):Br b p q:=by subst h;exact a
attribute [irreducible] Br
def TI:Code->Nat
 |.region id _ _=>id
 |.seq a _=>TI a
 |.block _ c=>TI c
 |.loop c=>TI c
 |.scope c=>TI c
 |_=>0
def OC(gr:Nat->List Ghost)(id:Nat):Bool:=match gr id with
 |.orders::_=>true
 |_=>false
def IE(b:Bool)(g:Nat->Bool):Code->Bool
 |.region id ops d=> !d||g id||SK (kb b ops) ops
 |.seq x y=>IE b g x&&IE b g y
 |.cond _ x y=>IE b g x&&IE b g y
 |.block _ c=>IE b g c
 |.loop c=>IE b g c
 |.scope c=>IE b g c
 |_=>true
noncomputable def EE(E:Env)(nt:Nat)(I:Nat->Option Inv)(c:Code)(Q:Post)(st:St):Prop:=
 Code.rec (motive:=λ_=>(Nat->Option Inv)->Post->St->Prop)
  (λ_ Q st=>Q.n st)
  (λid ops d _ Q st=>match d with
    |true=>match E.gr id with
     |.orders::h=>anyQ E nt ops (Nk E Q.n h) st
     |_=>Xw E nt ops (Nk E Q.n (E.gr id)) st
    |false=>NK E nt ops (Nk E Q.n (E.gr id)) ops.toList st)
  (λ_ _ a b I Q st=>a I ⟨λe=>b I Q e,Q.x,Q.r⟩ st)
  (λc _ _ x y I Q st=>match BZ E st.ρ none c with
    |some (.bool b)=>Br b (x I Q st) (y I Q st)
    |some (.ub p q)=>Ub p (x I Q st)/\Ub q (y I Q st)
    |_=>False)
  (λi _ b I Q st=>b I ⟨Q.n,λj e=>if j=i then Nk E Q.n (E.gr (1000+i)) e else Q.x j e,Q.r⟩ st)
  (λf b I Q st=>match I (TI f)with
    |some v=>match v.un with
     |some n=>Xg (λQ st=>b I Q st) Q n st
     |none=>∃z,v.ok z/\Rg (nilL v.nl st) (v.st z)/\∀z,v.ok z->match XU E (v.st z)with
      |true=>b ((v.sub z).getD I) ⟨λe=>∃g,v.ok g/\v.μ g<v.μ z/\Rg e (v.st g),Q.x,Q.r⟩ (v.st z)
      |false=>False
    |none=>False)
  (λ_ _ _ _ _ _ _ _ _=>False)
  (λi _ Q st=>Q.x i st)
  (λ_ b I Q st=>b I Q st)
  (λ_ _ Q st=>Q.n st)
  (λ_ _ _ _=>False)
  (λ_ Q st=>Q.r st)
  (λ_ _ _ _=>False)
  c I Q st
section
variable{E:Env}{nt:Nat}{I:Nat->Option Inv}{Q:Post}{st:St}
theorem f7s:EE E nt I .skip Q st=Q.n st:=rfl
theorem f7e{id:Nat}{ops:Array Oper}{d:Bool}:EE E nt I (.region id ops d) Q st=match d with
 |true=>match E.gr id with
  |.orders::a=>anyQ E nt ops (Nk E Q.n a) st
  |_=>Xw E nt ops (Nk E Q.n (E.gr id)) st
 |false=>NK E nt ops (Nk E Q.n (E.gr id)) ops.toList st:=rfl
theorem f5f{a b:Code}:EE E nt I (.seq a b) Q st=EE E nt I a ⟨λc=>EE E nt I b Q c,Q.x,Q.r⟩ st:=rfl
theorem f56{c:Operand}{x y:Code}:EE E nt I (.cond c x y) Q st=match BZ E st.ρ none c with
 |some (.bool b)=>Br b (EE E nt I x Q st) (EE E nt I y Q st)
 |some (.ub p q)=>Ub p (EE E nt I x Q st)/\Ub q (EE E nt I y Q st)
 |_=>False:=rfl
theorem f6j{i:Nat}{b:Code}:EE E nt I (.block i b) Q st=EE E nt I b ⟨Q.n,λj a=>if j=i then Nk E Q.n (E.gr (1000+i)) a else Q.x j a,Q.r⟩ st:=rfl
theorem f80{b:Code}:EE E nt I (.loop b) Q st=match I (TI b)with
 |some v=>match v.un with
  |some n=>Xg (λQ st=>EE E nt I b Q st) Q n st
  |none=>∃z,v.ok z/\Rg (nilL v.nl st) (v.st z)/\∀z,v.ok z->match XU E (v.st z)with
   |true=>EE E nt ((v.sub z).getD I) b ⟨λa=>∃c,v.ok c/\v.μ c<v.μ z/\Rg a (v.st c),Q.x,Q.r⟩ (v.st z)
   |false=>False
 |none=>False:=rfl
theorem f4w{f:Operand}{t:Array Tmp}{a b:Code}:EE E nt I (.rangeFunc f t a b) Q st=False:=rfl
theorem f2s{i:Nat}:EE E nt I (.exit i) Q st=Q.x i st:=rfl
theorem f3z{b:Code}:EE E nt I (.scope b) Q st=EE E nt I b Q st:=rfl
theorem f7d{l:Nat}:EE E nt I (.label l) Q st=Q.n st:=rfl
theorem f7b{l:Nat}:EE E nt I (.goto l) Q st=False:=rfl
theorem f88:EE E nt I .ret Q st=Q.r st:=rfl
theorem f5d{m:String}:EE E nt I (.refuse m) Q st=False:=rfl
end
theorem c7p{P:Program}{Q:Exit->Act->World->Prop}{c:Code}(J:Nat->Act->World->Prop)
 (i:∀n a w,J n a w->c.wp P (Exit.then (λo q=>∃m,m<n/\J m o q) Q) a w):∀n a w,J n a w->(Code.loop c).wp P Q a w:=by
 intro n a w h b k r;have s:∀n a w,J n a w->∃e o q,Q e o q/\Arrives P (lone (b.at a (.code c::.inLoop c::k)) r w) b k r e o q:=by
  intro n;induction n using Nat.strongRecOn with
  |_ n t=>
   intro a w u;obtain⟨e,d,f,g,f8⟩:=i n a w u b (.inLoop c::k) r;cases e with
   |normal=>
    obtain⟨m,v,j⟩:=g;obtain⟨e₂,a₂,w₂,hq₂,harr₂⟩:=t m v d f j;exact D6
   |exit id=>exact⟨_,d,f,g,.pass (x:=.inLoop c) rfl (λ_ _=>.inl Dm) f8⟩
   |goto l=>exact⟨_,d,f,g,.pass (x:=.inLoop c) rfl (λ_ _=>.inl Dm) f8⟩
   |ret=>exact⟨_,d,f,g,.pass (x:=.inLoop c) rfl (λ_ _=>.inl Dm) f8⟩
   |panic ch=>exact⟨_,d,f,g,.pass (x:=.inLoop c) rfl (λ_ _=>.inl Dm) f8⟩
   |outgrown=>exact⟨_,d,f,g,.pass (x:=.inLoop c) rfl (λ_ _=>.inl Dm) f8⟩
 obtain⟨e,o,q,g,f8⟩:=s n a w h;exact⟨e,o,q,g,.of_steps (.one step_loop) f8⟩
def LW(P:Program)(c:Code)(Q:Exit->Act->World->Prop)(a:Act)(w:World):Prop:=∀(b:Frame) (k:List Item) (d:List Frame),∃e f g,Q e f g/\Arrives P (lone (b.at a (.code c::.inLoop c::k)) d w) b k d e f g
theorem LW.loop{P:Program}{Q:Exit->Act->World->Prop}{c:Code}{a:Act}{w:World}(h:LW P c Q a w):(Code.loop c).wp P Q a w:=λb k d=>
 let ⟨e,a',w',hq,f8⟩:=h b k d
 ⟨e,a',w',hq,.of_steps (.one step_loop) f8⟩
theorem LW.once{P:Program}{Q:Exit->Act->World->Prop}{c:Code}{a:Act}{w:World}(h:c.wp P (Exit.then (λj m=>LW P c Q j m) Q) a w):LW P c Q a w:=by
 intro b k i;obtain⟨e,d,f,g,f8⟩:=h b (.inLoop c::k) i;cases e with
 |normal=>
  obtain⟨e₂,a₂,w₂,hq₂,harr₂⟩:=g b k i;exact D6
 |exit id=>exact⟨_,d,f,g,.pass (x:=.inLoop c) rfl (λ_ _=>.inl Dm) f8⟩
 |goto l=>exact⟨_,d,f,g,.pass (x:=.inLoop c) rfl (λ_ _=>.inl Dm) f8⟩
 |ret=>exact⟨_,d,f,g,.pass (x:=.inLoop c) rfl (λ_ _=>.inl Dm) f8⟩
 |panic ch=>exact⟨_,d,f,g,.pass (x:=.inLoop c) rfl (λ_ _=>.inl Dm) f8⟩
 |outgrown=>exact⟨_,d,f,g,.pass (x:=.inLoop c) rfl (λ_ _=>.inl Dm) f8⟩
section
variable{E:Env}{B0:Nat}{X A:Nat->Prop}{w0:World}{nt:Nat}
def PostOK(E:Env)(B0:Nat)(X A:Nat->Prop)(w0:World)(nt:Nat)(Q:Post)(R:Exit->Act->World->Prop):Prop:=
 (∀st a w μ,SD E B0 X A w0 nt st a w μ->Q.n st->R .normal a w)/\(∀i st a w μ,SD E B0 X A w0 nt st a w μ->Q.x i st->R (.exit i) a w)/\(∀st a w μ,SD E B0 X A w0 nt st a w μ->Q.r st->R .ret a w)
theorem d0r(k:EnvOK E)(m:FU E){ops:Array Oper}{R:Exit->Act->World->Prop}{K:St->Prop}:∀(l:List Oper) (st:St) (a:Act) (w:World) (μ:Mu),SD E B0 X A w0 nt st a w μ->NK E nt ops K l st->
 (∀d e f c,SD E B0 X A w0 nt d e f c->K d->R .normal e f)->wpList E.P ops R l a w:=by
 intro l;induction l with
 |nil=>
  intro st a w μ h b g;exact g st a w μ h b
 |cons o l n=>
  intro st a w μ h b g;simp only[Xp]at b;obtain⟨st1,μ1,q,b⟩:=b1b h b;unfold Qo at b;split at b;rotate_left
  .exact b.elim
  rename_i p i hs;rw[St.forceO_eq]at b;refine wpList_step (λKc j=> ?_);exact b0m k m q hs b.1.out (λe f c hs=>j _ _ (n i e f c hs b.2 g))
theorem b5i(hE:EnvOK E)(hC:FU E)(hm:E.P.follows .mixedOrders=true):∀(c:Code) (I:Nat->Option Inv) (Q:Post) (R:Exit->Act->World->Prop) (st:St) (a:Act) (w:World) (μ:Mu),IE E.c2 (OC E.gr) c=true->SD E B0 X A w0 nt st a w μ->PostOK E B0 X A w0 nt Q R->
 EE E nt I c Q st->c.wp E.P R a w:=by
 intro c;induction c with
 |skip=>intro I Q R st a w μ _ h u o;exact wp_skip (u.1 st a w μ h o)
 |region id ops d=>
  intro I Q R st a w μ f7 h u o;simp only[f7e]at o;have O:∀{k B C m},SD E B0 X A w0 nt k B C m->Nk E Q.n (E.gr id) k->R .normal B C:=by
   intro k B C m hs K;cases W:E.gr id with
   |nil=>rw[W]at K;exact u.1 k B C m hs K
   |cons g Y=>
    rw[W]at K;obtain⟨F,G,J,dw⟩:=Vk _ hs K;exact u.1 F B C G J dw
  cases d with
  |false=>
   exact wp_region_list (d0r hE hC _ st a w μ h o (λk B C m hs K=>O hs K))
  |true=>
   dsimp only at o;split at o
   .rename_i Y W;refine b9m hE hC hm h o (λk B C m hs K=> ?_);cases Y with
    |nil=>exact u.1 k B C m hs K
    |cons g Y=>
     obtain⟨F,G,J,dw⟩:=Vk _ hs K;exact u.1 F B C G J dw
   .rename_i j6;have ho:OC E.gr id=false:=by
     unfold OC;split
     .rename_i Y e;exact absurd e (j6 Y)
     .rfl
    exact c88 hE hC hm (by simpa[IE,ho]using f7) h o (λk B C m hs K=>O hs K)
 |seq x y S T=>
  intro I Q R st a w μ f7 h u o;simp only[IE,Jc]at f7;refine wp_seq (S I ⟨λk=>EE E nt I y Q k,Q.x,Q.r⟩ _ st a w μ f7.1 h ⟨λk B C m hs H=>T I Q R k B C m f7.2 hs u H,λi k B C m hs H=>u.2.1 i k B C m hs H,λk B C m hs H=>u.2.2 k B C m hs H⟩ o)
 |cond c x y S T=>
  intro I Q R st a w μ f7 h u o;simp only[IE,Jc]at f7;simp only[f56]at o;split at o
  .rename_i b hb;have hd:=h.opds (g:=none) (λq b e=>Ds) _ _ hb;generalize hv:a.eval c=v at hd;cases hd;refine wp_cond hv ?_;cases b
   .exact T I Q R st a w μ f7.2 h u o.f
   .exact S I Q R st a w μ f7.1 h u o.t
  .rename_i hb;have hd:=h.opds (g:=none) (λq b e=>Ds) _ _ hb;generalize hv:a.eval c=v at hd;cases hd with
   | @ub b p q h1 h2=>
   refine wp_cond hv ?_;cases b
   .exact T I Q R st a w μ f7.2 h u (o.2.out (h2 rfl))
   .exact S I Q R st a w μ f7.1 h u (o.1.out (h1 rfl))
  .exact o.elim
 |block i b Z=>
  intro I Q R st a w μ f7 h u o;have O:∀{k B C m},SD E B0 X A w0 nt k B C m->Nk E Q.n (E.gr (1000+i)) k->R .normal B C:=by
   intro k B C m hs K;cases W:E.gr (1000+i)with
   |nil=>rw[W]at K;exact u.1 k B C m hs K
   |cons g Y=>
    rw[W]at K;obtain⟨F,G,J,dw⟩:=Vk _ hs K;exact u.1 F B C G J dw
  refine wp_block (Z I ⟨Q.n,λj k=>if j=i then Nk E Q.n (E.gr (1000+i)) k else Q.x j k,Q.r⟩ _ st a w μ G2 h ⟨λk B C m hs H=>u.1 k B C m hs H,λj k B C m hs H=> ?_,λk B C m hs H=>u.2.2 k B C m hs H⟩ o);show (if j=i then R .normal B C else R (.exit j) B C);split
  .rename_i e;exact O hs (by simpa[e]using H)
  .rename_i e;replace H:Q.x j k:=by simpa[e]using H
   exact u.2.1 j k B C m hs H
 |loop b Z=>
  intro I Q R st a w μ f7 h u o;simp only[f80]at o;split at o;rotate_left
  .exact o.elim
  rename_i v hv;split at o
  .rename_i n H;have key:∀(n:Nat) (st:St) (a:Act) (w:World) (μ:Mu),SD E B0 X A w0 nt st a w μ->Xg (λQ st=>EE E nt I b Q st) Q n st->LW E.P b R a w:=by
    intro n;induction n with
    |zero=>intro st a w μ _ h;exact h.elim
    |succ n ihn=>
     intro st a w μ hs o;refine LW.once ?_;exact Z I ⟨Xg (λQ st=>EE E nt I b Q st) Q n,Q.x,Q.r⟩ _ st a w μ G2 hs ⟨λF M N G J H=>ihn F M N G J H,λi F M N G J H=>u.2.1 i F M N G J H,λF M N G J H=>u.2.2 F M N G J H⟩ o
   exact(key n st a w μ h o).loop
  obtain⟨z,hz,md,hround'⟩:=o;have mt:∀z,v.ok z->XU E (v.st z)=true/\EE E nt ((v.sub z).getD I) b ⟨λk=>∃U,v.ok U/\v.μ U<v.μ z/\Rg k (v.st U),Q.x,Q.r⟩ (v.st z):=by
   intro z hz;have:=hround' z hz;split at this
   .rename_i e;exact⟨e,this⟩
   .exact this.elim
  obtain⟨μ0,h0⟩:=c8n v.nl h;obtain⟨m,h'⟩:=b5u h0 md (mt z hz).1;refine c7p (λn B C=>∃z L,v.ok z/\v.μ z=n/\SD E B0 X A w0 nt (v.st z) B C L) (λn B C hJ=> ?_) (v.μ z) a w ⟨z,m,hz,rfl,h'⟩;obtain⟨U,L,r9,rfl,hs⟩:=hJ;refine Z ((v.sub U).getD I) ⟨λk=>∃V,v.ok V/\v.μ V<v.μ U/\Rg k (v.st V),Q.x,Q.r⟩ _ (v.st U) B C L G2 hs ⟨λF M N G J H=> ?_,λi F M N G J H=>u.2.1 i F M N G J H,λF M N G J H=>u.2.2 F M N G J H⟩ (mt U r9).2;obtain⟨V,zr,b6,rn⟩:=H;obtain⟨μ3,h3⟩:=b5u J rn (mt V zr).1;exact⟨v.μ V,b6,V,μ3,zr,rfl,h3⟩
 |exit i=>intro I Q R st a w μ _ h u o;exact wp_exit (u.2.1 i st a w μ h o)
 |ret=>intro I Q R st a w μ _ h u o;exact wp_ret (u.2.2 st a w μ h o)
 |rangeFunc f p x y _ _=>intro I Q R st a w μ _ h u o;exact o.elim
 |scope b Z=>
  intro I Q R st a w μ f7 h u o;exact wp_scope_straight (Z I Q _ st a w μ G2 h ⟨u.1,u.2.1,u.2.2⟩ o)
 |label l=>intro I Q R st a w μ _ h u o;exact wp_label (u.1 st a w μ h o)
 |goto l=>intro I Q R st a w μ _ h u o;exact o.elim
 |refuse s=>intro I Q R st a w μ _ h u o;exact o.elim
end
def BG:List SV->List SV->Prop
 | [],[]=>True
 |s::r,t::q=>s.le2 t/\BG r q
 |_,_=>False
theorem Xj:∀{cs a:List SV},BG cs a->cs.length=a.length/\∀(i:Nat) (t:SV),a[i]?=some t->∃s,cs[i]?=some s/\s.le2 t
 | [],[],_=>⟨rfl,λi t h=>Dv⟩
 |s::r,t::q,h=>by
  obtain⟨h1,b⟩:=Xj h.2;refine⟨E9,λi c ht=> ?_⟩;match i with
  |0=>simp at ht;subst ht;exact⟨s,rfl,h.1⟩
  |i+1=>simpa using b i c Ev
 | [],_::_,h=>h.elim
 |_::_,[],h=>h.elim
def LB(n:Nat):List SV->List Entry
 | []=>[]
 |s::r=>⟨n,none,s⟩::LB (n+1) r
theorem b4r{t:Nat}{e:Entry}:∀(l:List SV) (n:Nat),BW t (LB n l)=some e->e.guard=none/\n<=t/\l[t-n]?=some e.sv:=by
 intro l;induction l with
 |nil=>intro n h;simp[LB,BW]at h
 |cons s r a=>
  intro n h;simp only[LB,BW]at h;split at h
  .rename_i b;cases h;subst b;exact⟨rfl,Ir _,Dm⟩
  .obtain⟨c,h2,d⟩:=a (n+1) h;refine⟨c,Dj,?_⟩;rw[show t-n=(t-(n+1))+1 from Dj];simpa using d
def Sn(E:Env)(st:St):ResultVar->Option SV
 |.tmp t=>(BZ E st.ρ none (.tmp t)).bind (SV.roA st.own)
 |.cell t T=>(BZ E st.ρ none (.tmp t)).bind λp=>match p with
  |.own k o=>(Sf E.P st.own T (.own k o)).bind λr=>r.2.roA st.own
  |_=>none
def d6i(E:Env)(a:Func)(st:St):Option SV:=match a.results.toList with
 | [r]=>Sn E st r
 |b=>(b.mapM (Sn E st)).map .tup
def LX(E:Env)(a:Func)(s:SV)(st:St):Prop:=match d6i E a st with
 |some r=>r.le2 s
 |none=>False
structure Fam where
 ι:Type
 args:ι->List SV
 pre:ι->Prop
 res:ι->SV
def Px(F:Fam)(k:List SV->Option (Prop×SV)):Prop:=∀a p s,k a=some (p,s)->p->∃i,BG a (F.args i)/\F.pre i/\s=F.res i
section
variable{E:Env}
def Pv(tmps:Array Value):ResultVar->Sem Value
 |.tmp t=>pure (tmps.getD t undef)
 |.cell a t=>do loadVar t (<-asAddr (tmps.getD a undef))
theorem b33(c:Func)(tmps:Array Value):results c tmps=(do let b<-c.results.mapM (Pv tmps);pure (if h:b.size=1 then b[0]else .tuple b)):=by
 unfold results;have:Pv tmps=λ(r:ResultVar)=>(match r with
  |.tmp t=>pure (tmps.getD t undef)
  |.cell a t=>do loadVar t (<-asAddr (tmps.getD a undef)):Sem Value):=by
  funext r;cases r<;>rfl
 rw[this];rfl
variable{B0:Nat}{X A:Nat->Prop}{w0:World}{nt:Nat}{st:St}{a:Act}{w:World}{μ:Mu}
theorem b6k(h:SD E B0 X A w0 nt st a w μ){r:ResultVar}{s:SV}(c:Sn E st r=some s):∃v,(Pv a.tmps r).run E.P w=.ok v w/\D w A BM s v:=by
 have d:=h.opds (g:=none) (λq b e=>Ds);have ro:∀{s t:SV} {v:Value},D w (held A μ) μ s v->s.roA st.own=some t->D w A BM t v:=λf m=>VI h.own (λ_ _ h=>h) (λ_ h=>.inl h) f m (λ_ _ h=>h);cases r with
 |tmp t=>
  simp only[Sn,Ip]at c;obtain⟨x,y,c⟩:=c;exact⟨_,rfl,ro (d _ _ y) c⟩
 |cell t T=>
  simp only[Sn,Ip]at c;obtain⟨p,z,c⟩:=c;split at c
  .rename_i k o;simp only[Ip]at c;obtain⟨⟨q,x⟩,i,c⟩:=c;have B:q:=by
    simp only[Sf,I5,Hy]at i;obtain⟨n,_,cs,_,s',_,rfl,_⟩:=i;exact Im
   have j:=d _ _ z;obtain⟨u,l,f⟩:=b2z h.own (λ_ _ h=>h) j i B;refine⟨u,?_,ro f c⟩;generalize C:a.eval (.tmp t)=v at j l;have F:a.tmps.getD t undef=v:=C;cases j with
   |own hk=>
    simp only[Pv,F,asAddr,Hz];simpa[Instr.loadAt,Instr.sureAddr]using l
  .cases c
theorem c2x(h:SD E B0 X A w0 nt st a w μ):∀(l:List ResultVar) (b:List SV),l.mapM (Sn E st)=some b->∃c,(l.mapM (Pv a.tmps)).run E.P w=.ok c w/\DL w A BM b c:=by
 intro l;induction l with
 |nil=>intro b h;simp at h;subst h;exact⟨[],Dm,rfl,λi s v h=>Dv⟩
 |cons r l g=>
  intro b hs;simp only[L2,I5,Option.pure_def,J8]at hs;obtain⟨s1,j,d,k,rfl⟩:=hs;obtain⟨v,hv,m⟩:=b6k h j;obtain⟨c,ve,f⟩:=g d k;refine⟨v::c,He,by simp[f.1],λi s n hs e=> ?_⟩;match i with
  |0=>simp at hs e;subst hs e;exact m
  |i+1=>exact f.2 i s n F9 (by simpa using e)
theorem b4b(h:SD E B0 X A w0 nt st a w μ){c:Func}{s:SV}(b:d6i E c st=some s):∃v,(results c a.tmps).run E.P w=.ok v w/\D w A BM s v:=by
 rw[b33,K6,Array.mapM_eq_mapM_toList,Sem.run_map];unfold d6i at b;split at b
 .rename_i r g;obtain⟨v,i,j⟩:=b6k h b;refine⟨v,?_,j⟩;rw[g,L2,K6,i];simp
 .rename_i rs k;simp only[In]at b;obtain⟨l,f,rfl⟩:=b;obtain⟨d,m,e⟩:=c2x h _ l f;refine⟨.tuple d.toArray,?_,.tup d e.1 e.2⟩;rw[m];obtain⟨n,_⟩:=MY f;have o:d.length≠1:=by
   rw[e.1,n];intro p;match hl:c.results.toList,p with
   | [r],_=>exact k r hl
  simp[o]
theorem verify{P:Program}{glob:Nat->Option SV}{f:FuncId}{fn:Func}{code:Code}(E:Env)(zu:E.P=P)(zw:E.glob=glob)(P1:E.na=0)(hE:EnvOK E)(hC:FU E)(hm:P.follows .mixedOrders=true)(hf:P.funcs[f]?=some fn)(hb:fn.body=some code)(hn:(fn.name== "runtime.NumGoroutine")=false)
 (F:Fam) (I:F.ι->Nat->Option Inv) (k:List SV->Option (Prop×SV)) (hk:Px F k) (bf:∀i,(F.args i).length<=fn.ntmps) (f7:IE E.c2 (OC E.gr) code=true)
 (H:∀i,F.pre i->EE E fn.ntmps (I i) code ⟨LX E fn (F.res i),λ_ _=>False,LX E fn (F.res i)⟩ ⟨LB 0 (F.args i),[]⟩):c6f P glob f k:=by
 subst zu zw;refine⟨⟨fn,hf,hn,by rw[hb];rfl⟩,λA w args vals pre s hA hg hD hr hp=> ?_⟩;obtain⟨i,bj,da,rfl⟩:=hk args pre s hr hp;obtain⟨l1,l2⟩:=Xj bj;have s4:vals.length<=fn.ntmps:=Gp;refine calls_of_wp hf hb ?_;have hS:SD E w.heap.size (λ_=>False) A w fn.ntmps ⟨LB 0 (F.args i),[]⟩ {tmps:=vals.toArray++Array.replicate (fn.ntmps-vals.toArray.size) undef,defers:=[]} w BM:=by
  refine⟨⟨λk x h=>Dw,λk k' x x' b h=>Dw,λk x b h=>Dw,hA⟩,Fr.refl _ _ _,Ir _,λg s re=>⟨(hg g s re).1,?_⟩,rfl,Du,λt e he=> ?_,λ_ _=>rfl,λk x hx=>Hf⟩
  .exact D7
  .obtain⟨h1,_,h3⟩:=b4r _ _ he;unfold CK;rw[h1];simp only;rw[LG he];have b6:t<(F.args i).length:=(Ij.1 h3).1;obtain⟨s0,bu,qq⟩:=l2 t e.sv G3;have se:t<vals.length:=Gq;have hd:=hD.2 t s0 vals[t] bu (Ig se);have dn:(vals.toArray++Array.replicate (fn.ntmps-vals.toArray.size) undef).getD t undef=vals[t]:=by
    simp[Array.getElem?_append,se]
   rw[dn];have:=Pi hd qq;exact D8
 refine b5i hE hC hm code (I i) ⟨LX E fn (F.res i),λ_ _=>False,LX E fn (F.res i)⟩ _ _ _ w BM f7 hS ⟨λst a w' μ hs hr=> ?_,λi st a w' μ hs hr=>hr.elim,λst a w' μ hs hr=> ?_⟩ (H i da);all_goals
  replace hr:LX E fn (F.res i) st:=hr;unfold LX at hr;split at hr
  .rename_i r fu;obtain⟨v,hv,hd⟩:=b4b hs fu;exact⟨hs.dfr,v,hv,v,rfl,Pi hd hr,hs.fr⟩
  .exact hr.elim
def c8x(st:St):SV->Prop
 |.osl k=>match st.own[k]? with
  |some (.row _ _ n f _)=>∀i,i<n->(f i).all SV.flat0=true
  |_=>False
 |.sl _ n _ _=>n=0
 |s=>if s.flat0 then True else False
def RM(E:Env)(a:Func)(s:SV)(st:St):Prop:=match a.results.toList with
 | [.tmp t]=>match BZ E st.ρ none (.tmp t)with
   |some b=>c8x st b/\LX E a s st
   |none=>False
 |_=>False
theorem c9f{w:World}{H:Nat->Prop}{μ:Mu}{x:Value}{T:TypeId}{sz n:Nat}{f:Nat->List SV}{c:Option Nat}{B:Nat}(hx:∀b,CA x b->¬b<B)(l:∀i,i<n->(f i).all SV.flat0=true)(h:CT w H μ x (.row T sz n f c)):D w (λb=>b<B) BM (.sl sz n f c) x:=by
 obtain⟨a,m,rfl,hn,hm,hc,hl,q⟩:=h;rcases q with rfl|⟨b,o,e,r,rfl,g,ho,h1,t⟩
 .exact Cg
 .have u:=hx b (JC r);have k:∀i j,i<n->j<sz->o+i*sz+j<e.length:=λi j hi d=>by
   have:=KV hi d;have:n*sz<=m*sz:=Js _ hn;omega
  refine .sl _ b o m (λi j=>e.getD (o+i*sz+j) undef) hn hm hc (λ_=>⟨rfl,u,Nz g,λi j hi d=> ?_⟩) hl (λi j s hi hs=> ?_)
  .have:=k i j hi d;rw[Qw g,Ig this];simp only[I6,Ig this];exact Ch
  .have d:j<sz:=Fs;have:=k i j hi d;simp only[I6,Ig this];exact VR (Iq.1 (l i hi) s (Ik hs)) (t i j s _ hi hs (Ig this))
theorem c31(h:SD E B0 (λ_=>False) A w0 nt st a w μ){s t:SV}{v:Value}(q:D w (held A μ) μ s v)(l:s.roA st.own=some t)(d:c8x st s):D w (λb=>b<B0) BM t v:=by
 unfold c8x at d;split at d
 .rename_i k;split at d
  .rename_i T y n f c u;simp only[SV.roA,SV.ro,SV.ro1,u,J8]at l;subst l;cases q with
   |osl p=>
   obtain⟨bl,e,z⟩:=h.own.blk _ _ p;rw[u]at e;cases e;refine c9f (λb B b6=> ?_) d z;rcases(h.own.rng _ _ b p B).2.2 with x|x
   .omega
   .exact x
  .exact d.elim
 .rename_i y n f c;subst d;simp only[SV.roA,SV.ro,SV.ro1,J8]at l;subst l;cases q with
  |sl a b o m g C hx F b7 G hD=>exact .sl a b o m g C hx F (λh=>absurd h (Lg _)) G (λi j s H=>absurd H (Ja _))
 .split at d
  .rename_i r;have r:s.flat0=true:=r;have I:D w A BM t v:=VI h.own (λ_ _ h=>h) (λ_ h=>.inl h) q l (λ_ _ h=>h);have:t.flat0=true:=by
    revert l r;cases s<;>simp_all[SV.flat0,SV.roA,SV.ro,SV.ro1]
    all_goals(intros;subst_vars;simp_all[])
   exact VR this I
  .exact d.elim
theorem f3t{P:Program}{glob:Nat->Option SV}{f:FuncId}{fn:Func}{code:Code}(E:Env)(zu:E.P=P)(zw:E.glob=glob)(P1:E.na=0)(hE:EnvOK E)(hC:FU E)(hm:P.follows .mixedOrders=true)(hf:P.funcs[f]?=some fn)(hb:fn.body=some code)(hn:(fn.name== "runtime.NumGoroutine")=false)
 (F:Fam) (I:F.ι->Nat->Option Inv) (k:List SV->Option (Prop×SV)) (hk:Px F k) (bf:∀i,(F.args i).length<=fn.ntmps) (f7:IE E.c2 (OC E.gr) code=true)
 (H:∀i,F.pre i->EE E fn.ntmps (I i) code ⟨RM E fn (F.res i),λ_ _=>False,RM E fn (F.res i)⟩ ⟨LB 0 (F.args i),[]⟩):c6f P glob f k/\c65 P glob f k:=by
 subst zu zw;refine⟨⟨⟨fn,hf,hn,by rw[hb];rfl⟩,?_⟩,?_⟩;all_goals
  intro A w args vals pre s hA hg hD hr hp;obtain⟨i,bj,da,rfl⟩:=hk args pre s hr hp;obtain⟨l1,l2⟩:=Xj bj;have s4:vals.length<=fn.ntmps:=Gp;refine calls_of_wp hf hb ?_;have hS:SD E w.heap.size (λ_=>False) A w fn.ntmps ⟨LB 0 (F.args i),[]⟩ {tmps:=vals.toArray++Array.replicate (fn.ntmps-vals.toArray.size) undef,defers:=[]} w BM:=by
   refine⟨⟨λk x h=>Dw,λk k' x x' b h=>Dw,λk x b h=>Dw,hA⟩,Fr.refl _ _ _,Ir _,λg s re=>⟨(hg g s re).1,?_⟩,rfl,Du,λt e he=> ?_,λ_ _=>rfl,λk x hx=>Hf⟩
   .exact D7
   .obtain⟨h1,_,h3⟩:=b4r _ _ he;unfold CK;rw[h1];simp only;rw[LG he];have b6:t<(F.args i).length:=(Ij.1 h3).1;obtain⟨s0,bu,qq⟩:=l2 t e.sv G3;have se:t<vals.length:=Gq;have hd:=hD.2 t s0 vals[t] bu (Ig se);have dn:(vals.toArray++Array.replicate (fn.ntmps-vals.toArray.size) undef).getD t undef=vals[t]:=by
     simp[Array.getElem?_append,se]
    rw[dn];have:=Pi hd qq;exact D8
  refine b5i hE hC hm code (I i) ⟨RM E fn (F.res i),λ_ _=>False,RM E fn (F.res i)⟩ _ _ _ w BM f7 hS ⟨λst a w' μ hs hr=> ?_,λi st a w' μ hs hr=>hr.elim,λst a w' μ hs hr=> ?_⟩ (H i da);all_goals
   replace hr:RM E fn (F.res i) st:=hr;unfold RM at hr;split at hr;rotate_left
   .exact hr.elim
   rename_i t Q1;split at hr;rotate_left
   .exact hr.elim
   rename_i s0 bu;obtain⟨bk,hr⟩:=hr;unfold LX at hr;split at hr
   .rename_i r fu;obtain⟨v,hv,hd⟩:=b4b hs fu;first
     |exact⟨hs.dfr,v,hv,v,rfl,Pi hd hr,hs.fr⟩
     |(refine⟨hs.dfr,v,hv,v,rfl,?_,hs.fr⟩
       have ji:=hs.opds (g:=none) (λq b e=>Ds) _ _ bu;unfold d6i at fu;rw[Q1]at fu;simp only[Sn,bu,Kw]at fu;have Q2:a.eval (.tmp t)=v:=by rw[b33,K6,Array.mapM_eq_mapM_toList,Sem.run_map,Q1]at hv;simp[Pv]at hv;show a.tmps.getD t undef=v;rw[<-hv];simp
       rw[Q2]at ji;exact Pi (c31 hs ji fu bk) hr)
   .exact hr.elim
end
section
variable{H:Type}{enc:TypeId × Value->H}{P:Program}{w:World}{base:Nat}{sp:Nat->Bool}{held:Bool}{fuel:Nat}{t:TypeId}{cs:List Value}{x:DataW H × List MemPlace}
theorem d37{k:IntKind}{n:Int}(h:(Lit.int k n).wf=true):AD k n:=by simp only[Lit.wf,I3]at h;cases k<;>simp[IntKind.min,IntKind.max,IntKind.bits,IntKind.signed]at h<;>simp only[AD]<;>omega
mutual
def Ue:DataW H->List Value
 |.lit (.int k n)=>[.int k n]
 |.lit (.bool b)=>[.bool b]
 |.agg a=>d95 a
 |_=>[]
def d95:List (DataW H)->List Value
 | []=>[]
 |d::r=>Ue d++d95 r
end
mutual
def UC:DataW H->Bool
 |.lit (.int _ _)=>true
 |.lit (.bool _)=>true
 |.agg a=>c63 a
 |_=>false
def c63:List (DataW H)->Bool
 | []=>true
 |d::r=>UC d&&c63 r
end
theorem b92:∀l:List (DataW H),d95 l=(l.map Ue).flatten
 | []=>rfl
 |d::r=>by simp[d95,b92 r]
theorem b2w:∀{l:List (DataW H)},c63 l=true->∀d∈l,UC d=true
 | [],_,d,h=>Dw
 |x::r,h,d,a=>by
  simp only[c63,Jc]at h;rcases Iv.1 a with rfl|a
  .exact h.1
  .exact b2w h.2 d a
theorem b53:∀(b:List Nat) (cs:List Value) (a:List (List Value)),a.length=b.length->cs.length=b.sum->(∀(i s:Nat) (y:List Value),b[i]?=some s->a[i]?=some y->(cs.drop (b.take i).sum).take s=y)->cs=a.flatten:=by
 intro b;induction b with
 |nil=>
  intro cs a c hc _;obtain rfl:a=[]:=L9.1 c;obtain rfl:cs=[]:=L9.1 Ed;rfl
 |cons s b f=>
  intro cs a c hc d;match a,c with
  |y::a,c=>
   have e:=d 0 s y rfl rfl;simp at e;have:=f (cs.drop s) a (by simpa using c) (by simp at hc⊢;omega) (λi g j hs k=>by have:=d (i+1) g j F9 (by simpa using k);simp only[List.take_succ_cons,List.sum_cons]at this;rw[List.drop_drop];exact this)
   rw[List.flatten_cons,<-this,<-e,List.take_append_drop]
theorem d8r{P:Program}{t:TypeId}(h:isVar P t=true):t<P.types.size:=by simp only[isVar,I3]at h;exact h.1
theorem c8m(a:laidOutB P=true)(h:isVar P t=true):rowFine P t=true:=by simp only[laidOutB,Jc]at a;exact Iq.1 a.1.1 t (Jk.2 (d8r h))
def XI(P:Program):Nat->TypeId->Bool
 |0,_=>false
 |n+1,t=>match P.underlying t with
  |some (.int _)|some .bool=>true
  |some (.struct a)=>a.toList.all λf=>XI P n f.type
  |some (.array _ e)=>XI P n e
  |_=>false
theorem c99(J:laidOutB P=true):∀(fuel:Nat) (t:TypeId) (cs:List Value) (x:DataW H×List MemPlace) (n:Nat),XI P n t=true->isVar P t=true->DataW.trod enc P w base sp held fuel t cs=some x->UC x.1=true->cs=Ue x.1:=by
 intro fuel;induction fuel with
 |zero=>intro t cs x n _ _ h;simp[DataW.trod]at h
 |succ m E=>
  intro t cs x n a F h o;match n,a with
  |G+1,a=>
  unfold XI at a;have c:=c8m J F;unfold rowFine at c;simp only[F,Bool.not_true,Mc]at c;cases hu:P.underlying t with
  |none=>simp[DataW.trod,hu]at h
  |some T=>
   cases T with
   |int k=>
    obtain⟨n,rfl,rfl,_⟩:=DataW.trod_int hu h;rfl
   |bool=>
    obtain⟨b,rfl,rfl⟩:=DataW.trod_bool hu h;rfl
   |struct I=>
    rw[hu]at c;simp only[Ib,Iq]at c;obtain⟨⟨q,r⟩,K⟩:=c;obtain⟨L,u,em,rfl,v,A,hx⟩:=DataW.trod_struct hu h;obtain rfl:m=u:=Dj;simp only[UC]at o;have B:=b2w o;simp only[Ue,b92,Lq];refine b53 (I.toList.map λf=>P.cellsOf f.type) cs _ (by simp[A]) (by rw[v,r]) (λi s y hs d=> ?_);rw[Jb,In]at hs d;obtain⟨f,g,rfl⟩:=hs;obtain⟨z,j,rfl⟩:=d;have l:i<I.toList.length:=(Ij.1 g).1;have C:=K i (Jk.2 l);rw[g]at C;simp only[Kx]at C;have:=hx i f (by simpa using g);rw[j]at this;rw[<-List.map_take]at*;rw[<-C];rw[hu]at a;exact E f.type _ z G (Iq.1 a f (Ik g)) (q f (Ik g)) this (B z.1 (List.mem_map_of_mem (Ik j)))
   |array n e=>
    rw[hu]at c;simp only[Ib]at c;obtain⟨M,r⟩:=c;obtain⟨L,u,em,rfl,v,A,hx⟩:=DataW.trod_array hu h;obtain rfl:m=u:=Dj;simp only[UC]at o;have B:=b2w o;simp only[Ue,b92,Lq];refine b53 (List.replicate n (P.cellsOf e)) cs _ (by simp[A]) (by rw[v,r];simp) (λi s y hs d=> ?_);rw[Jb,In]at d;obtain⟨z,j,rfl⟩:=d;have l:i<n:=by have:=(Ij.1 hs).1;simpa using this
    have hs':s=P.cellsOf e:=by simp[l]at hs;exact hs.symm
    subst hs';have:=hx i l;rw[j]at this;rw[List.take_replicate,List.sum_replicate_nat,Nat.min_eq_left (Nat.le_of_lt l)];rw[hu]at a;exact E e _ z G a M this (B z.1 (List.mem_map_of_mem (Ik j)))
   |_=>
    simp[hu]at a
end
def svIs:SV->Value->Bool
 |.int k n,.int d m=>k==d&&n==m
 |.bool b,.bool c=>b==c
 |.clo f [],.func (.func g) a b=>f==g&&a.isEmpty&&b.isEmpty
 |_,_=>false
theorem d42{w:World}{H:Nat->Prop}{μ:Mu}{s:SV}{v:Value}(h:svIs s v=true):D w H μ s v/\v.oneCell'=true/\s.pure=true:=by
 unfold svIs at h;split at h
 .simp only[Ib]at h;obtain⟨rfl,rfl⟩:=h;exact⟨.int,rfl,rfl⟩
 .simp only[Kx]at h;subst h;exact⟨.bool,rfl,rfl⟩
 .rename_i f g a b;simp only[Ib,Array.isEmpty_iff]at h;obtain⟨⟨rfl,rfl⟩,rfl⟩:=h;exact⟨.clo [] rfl (λi s v h=>Dv),rfl,rfl⟩
 .cases h
def c9e(sz n:Nat)(f:Nat->List SV)(cs:List Value):Bool:=
 cs.length==n*sz&&(List.range n).all λi=>(f i).length==sz&&((f i).zip ((cs.drop (i*sz)).take sz)).all λx=>svIs x.1 x.2
theorem c0r{w:World}{A:Nat->Prop}{μ:Mu}{g sz n:Nat}{f:Nat->List SV}{cs:List Value}(o:0<n)(p:¬A g)(q:g<w.heap.size)(r:∀k,w.cell? ⟨g,k,none⟩=cs[k]?)(c:c9e sz n f cs=true):(SV.rel sz n f 0 0).pure=true/\D w A μ (.rel sz n f 0 0) (.pointer (some ⟨g,0,none⟩)):=by
 simp only[c9e,Ib,Iq]at c;obtain⟨fh,c⟩:=c;have m:∀i j,i<n->j<sz->i*sz+j<cs.length:=λi j a b=>by have:=Js sz (show i+1<=n from a);rw[L3,Nat.one_mul]at this;omega
 have h:∀i j,i<n->j<sz->∀s,(f i)[j]?=some s->svIs s (cs.getD (i*sz+j) undef)=true:=by intro i j a b s hs;obtain⟨h1,t⟩:=c i (Jk.2 a);refine t (s,cs.getD (i*sz+j) undef) (K5.2 ⟨j,?_⟩);rw[List.getElem?_zip_eq_some];refine⟨hs,?_⟩;rw[List.getElem?_take,Ih b,List.getElem?_drop,If,Ig (m i j a b)];rfl
 have d:∀i,i<n->(f i).length=sz:=λi a=>(c i (Jk.2 a)).1;refine⟨rfl,?_⟩;have:=D.rel (w:=w) (H:=A) (μ:=μ) (sz:=sz) (n:=n) (i:=0) (off:=0) (f:=f) g 0 (λi j=>cs.getD (i*sz+j) undef) o p ⟨q,λi j a b=>⟨?_,?_⟩⟩ (λi a=>⟨d i a,?_⟩) (λi j s a hs=> ?_)
 .simpa using this
 .show w.cell? ⟨g,0+i*sz+j,none⟩=some (cs.getD (i*sz+j) undef);rw[Ki,r,If,Ig (m i j a b)];rfl
 .have u:j<(f i).length:=by rw[d i a];exact b
  exact(d42 (w:=w) (H:=A) (μ:=μ) (h i j a b _ (Ig u))).2.1
 .rw[Iq];intro s hs;obtain⟨j,b,e⟩:=Jg.1 hs;have l:j<sz:=by rw[<-d i a];exact b
  exact(d42 (w:=w) (H:=A) (μ:=μ) (h i j a l s (by rw[Ig b,e]))).2.2
 .have l:j<sz:=by rw[<-d i a];exact(Ij.1 hs).1
  exact(d42 (h i j a l s hs)).1
structure FamH where
 ι:Type
 args:ι->List SV
 own:ι->List Blk
 pre:ι->Prop
 res:ι->SV
 own':ι->List Blk
 chg:List Nat
def LawH(F:FamH)(h:HK):Prop:=∀b a r,h b a=some r->r.pre->∃i,BG b (F.args i)/\a.length=(F.own i).length/\Qv (F.own i).length a (F.own i)/\F.pre i/\r.res=F.res i/\r.own=F.own' i/\r.chg=F.chg
def TJ(E:Env)(st:St):ResultVar->Option SV
 |.tmp t=>BZ E st.ρ none (.tmp t)
 |.cell t T=>(BZ E st.ρ none (.tmp t)).bind λp=>match p with
  |.own k o=>(Sf E.P st.own T (.own k o)).map (·.2)
  |_=>none
def f4h(E:Env)(a:Func)(st:St):Option SV:=match a.results.toList with
 | [r]=>TJ E st r
 |b=>(b.mapM (TJ E st)).map .tup
def Ns(E:Env)(a:Func)(F:FamH)(i:F.ι)(st:St):Prop:=match f4h E a st with
 |some r=>r.le2 (F.res i)/\(if(F.res i).in2 (F.own' i).length=true then True else False)/\Qv (F.own' i).length st.own (F.own' i)
 |none=>False
section
variable{E:Env}{B0:Nat}{X A:Nat->Prop}{w0:World}{nt:Nat}{st:St}{a:Act}{w:World}{μ:Mu}
theorem b6g(h:SD E B0 X A w0 nt st a w μ){r:ResultVar}{s:SV}(c:TJ E st r=some s):∃v,(Pv a.tmps r).run E.P w=.ok v w/\D w (held A μ) μ s v:=by
 have d:=h.opds (g:=none) (λq b e=>Ds);cases r with
 |tmp t=>
  simp only[TJ]at c;exact⟨_,rfl,d _ _ c⟩
 |cell t T=>
  simp only[TJ,Ip]at c;obtain⟨p,l,c⟩:=c;split at c
  .rename_i k o;simp only[In]at c;obtain⟨⟨q,s0⟩,f,rfl⟩:=c;have m:q:=by
    simp only[Sf,I5,Hy]at f;obtain⟨n,_,cs,_,s',_,rfl,_⟩:=f;exact Im
   have i:=d _ _ l;obtain⟨u,j,x⟩:=b2z h.own (λ_ _ h=>h) i f m;refine⟨u,?_,x⟩;generalize y:a.eval (.tmp t)=v at i j;have z:a.tmps.getD t undef=v:=y;cases i with
   |own hk=>
    simp only[Pv,z,asAddr,Hz];simpa[Instr.loadAt,Instr.sureAddr]using j
  .cases c
theorem c34(h:SD E B0 X A w0 nt st a w μ):∀(l:List ResultVar) (b:List SV),l.mapM (TJ E st)=some b->∃c,(l.mapM (Pv a.tmps)).run E.P w=.ok c w/\DL w (held A μ) μ b c:=by
 intro l;induction l with
 |nil=>intro b h;simp at h;subst h;exact⟨[],Dm,rfl,λi s v h=>Dv⟩
 |cons r l g=>
  intro b hs;simp only[L2,I5,Option.pure_def,J8]at hs;obtain⟨s1,j,d,k,rfl⟩:=hs;obtain⟨v,hv,m⟩:=b6g h j;obtain⟨c,ve,f⟩:=g d k;refine⟨v::c,He,by simp[f.1],λi s n hs e=> ?_⟩;match i with
  |0=>simp at hs e;subst hs e;exact m
  |i+1=>exact f.2 i s n F9 (by simpa using e)
theorem d0z(h:SD E B0 X A w0 nt st a w μ){c:Func}{s:SV}(b:f4h E c st=some s):∃v,(results c a.tmps).run E.P w=.ok v w/\D w (held A μ) μ s v:=by
 rw[b33,K6,Array.mapM_eq_mapM_toList,Sem.run_map];unfold f4h at b;split at b
 .rename_i r g;obtain⟨v,i,j⟩:=b6g h b;refine⟨v,?_,j⟩;rw[g,L2,K6,i];simp
 .rename_i rs k;simp only[In]at b;obtain⟨l,f,rfl⟩:=b;obtain⟨d,m,e⟩:=c34 h _ l f;refine⟨.tuple d.toArray,?_,.tup d e.1 e.2⟩;rw[m];obtain⟨n,_⟩:=MY f;have o:d.length≠1:=by
   rw[e.1,n];intro p;match hl:c.results.toList,p with
   | [r],_=>exact k r hl
  simp[o]
end
structure GhX where
 g0:List Ghost:=[]
 gx:St->List Ghost:=λ_=>[]
def inG(E:Env)(G:GhX)(K:St->Prop)(st:St):Prop:=match G.g0 with
 | []=>K st
 |g::a=>Pg E K (g::a) st
def Oi(E:Env)(G:GhX)(K:St->Prop)(st:St):Prop:=match G.gx st with
 | []=>K st
 |g::a=>Pg E K (g::a) st
theorem f5i{P:Program}{glob:Nat->Option SV}{f:FuncId}{fn:Func}{code:Code}(F:FamH)(E:(i:F.ι)->Mu->Env)(zu:∀i μ,(E i μ).P=P)(zw:∀i μ,(E i μ).glob=glob)(P1:∀i μ,(E i μ).na=(F.own i).length/\(E i μ).ax=(λk=> !F.chg.contains k)/\(E i μ).av=μ)
 (hE:∀i μ,EnvOK (E i μ)) (hC:∀i μ,FU (E i μ)) (hm:P.follows .mixedOrders=true)
 (hf:P.funcs[f]?=some fn) (hb:fn.body=some code) (hn:(fn.name== "runtime.NumGoroutine")=false) (I:F.ι->Nat->Option Inv) (h:HK) (hh:LawH F h) (bf:∀i,(F.args i).length<=fn.ntmps) (gp:∀i,(F.own i).length<=(F.own' i).length) (G:GhX) (f7:∀i μ,IE (E i μ).c2 (OC (E i μ).gr) code=true)
 (H:∀i μ,F.pre i->inG (E i μ) G (EE (E i μ) fn.ntmps (I i) code ⟨Oi (E i μ) G (Ns (E i μ) fn F i),λ_ _=>False,Oi (E i μ) G (Ns (E i μ) fn F i)⟩) ⟨LB 0 (F.args i),F.own i⟩):d2b P glob f h:=by
 refine⟨⟨fn,hf,hn,by rw[hb];rfl⟩,λA w args vals own μ r hA hg hO d8 hD hr hp=> ?_⟩;obtain⟨i,bj,jw,tp,da,e1,e2,e3⟩:=hh args own r hr hp;have hEP':=zu i μ;subst hEP';obtain⟨l1,l2⟩:=Xj bj;have s4:vals.length<=fn.ntmps:=Gp;have pa:cut (F.own i).length μ=μ:=by
  funext k;unfold cut;split
  .rfl
  .rename_i hk;exact(d8 k Dj).symm
 obtain⟨Zp,W0,Zq⟩:=P1 i μ;refine calls_of_wp hf hb ?_;have hS:SD (E i μ) w.heap.size (Ti μ) A w fn.ntmps ⟨LB 0 (F.args i),F.own i⟩ {tmps:=vals.toArray++Array.replicate (fn.ntmps-vals.toArray.size) undef,defers:=[]} w μ:=by
  refine⟨⟨λk x hk=> ?_,hO.inj,λk x b hk hx=>⟨(hO.rng k x b hk hx).1,(hO.rng k x b hk hx).2.1,.inr ⟨k,x,hk,hx⟩⟩,hA⟩,Fr.refl _ _ _,Ir _,λg s re=> ?_,rfl,Du,λt e he=> ?_,λk hk=>d8 k (by rw[jw];exact hk),λk x hx=> ?_⟩
  .obtain⟨bl,e,bc⟩:=hO.blk k x hk;have b6:k<(F.own i).length:=by rw[<-jw];exact(Ij.1 e).1
   obtain⟨b,e2,bj⟩:=b28 tp k _ (Ig b6);rw[e]at e2;cases e2;refine⟨_,Ig b6,?_⟩;have:=Blk.le_sound (H':=held A μ) (λ_ h=>h) bc bj;rwa[pa]at this
  .rw[zw]at re;exact⟨(hg g s re).1,(hg g s re).2.keep ⟨Ir _,λ_ _ _=>rfl,λ_ _ h=>h,λ_ _ h=>Dw⟩⟩
  .obtain⟨h1,_,h3⟩:=b4r _ _ he;unfold CK;rw[h1];simp only;rw[LG he];have b6:t<(F.args i).length:=(Ij.1 h3).1;obtain⟨s0,bu,qq⟩:=l2 t e.sv G3;have se:t<vals.length:=Gq;have hd:=hD.2 t s0 vals[t] bu (Ig se);have dn:(vals.toArray++Array.replicate (fn.ntmps-vals.toArray.size) undef).getD t undef=vals[t]:=by
    simp[Array.getElem?_append,se]
   rw[dn];exact Pi hd qq
  .have pe:=Env.an_ak hx;unfold Env.an at hx;rw[Ih pe,Zq]at hx;exact hx
 have bh:∃st0 μ0,SD (E i μ) w.heap.size (Ti μ) A w fn.ntmps st0 {tmps:=vals.toArray++Array.replicate (fn.ntmps-vals.toArray.size) undef,defers:=[]} w μ0/\EE (E i μ) fn.ntmps (I i) code ⟨Oi (E i μ) G (Ns (E i μ) fn F i),λ_ _=>False,Oi (E i μ) G (Ns (E i μ) fn F i)⟩ st0:=by
  have h0:=H i μ da;unfold inG at h0;split at h0
  .exact⟨_,_,hS,h0⟩
  .exact Vk _ hS h0
 obtain⟨st0,μ0,hS0,hH0⟩:=bh;refine b5i (hE i μ) (hC i μ) hm code (I i) ⟨Oi (E i μ) G (Ns (E i μ) fn F i),λ_ _=>False,Oi (E i μ) G (Ns (E i μ) fn F i)⟩ _ _ _ w μ0 (f7 i μ) hS0 ⟨λst1 a w' μ1 hs hr=> ?_,λi st a w' μ2 hs hr=>hr.elim,λst1 a w' μ1 hs hr=> ?_⟩ hH0;all_goals
  have hout:∃st μ2,SD (E i μ) w.heap.size (Ti μ) A w fn.ntmps st a w' μ2/\Ns (E i μ) fn F i st:=by
   replace hr:Oi (E i μ) G (Ns (E i μ) fn F i) st1:=hr;unfold Oi at hr;split at hr
   .exact⟨_,_,hs,hr⟩
   .exact Vk _ hs hr
  clear hr hs;obtain⟨st,μ2,hs,hr⟩:=hout;unfold Ns at hr;split at hr
  .rename_i rs fu;obtain⟨hr1,Zr,hr3⟩:=hr;have bh:(F.res i).in2 (F.own' i).length=true:=by
    split at Zr
    .assumption
    .exact Zr.elim
   obtain⟨v,hv,hd⟩:=d0z hs fu;have hH:∀b,held A (cut (F.own' i).length μ2) b->held A μ2 b:=by
    intro b hb;rcases hb with hb|⟨k,x,hk,hx⟩
    .exact .inl hb
    .refine .inr ⟨k,x,?_,hx⟩;unfold cut at hk;split at hk
     .exact hk
     .cases hk
   have nh:∀{k x},cut (F.own' i).length μ2 k=some x->k<(F.own' i).length/\μ2 k=some x:=by
    intro k x hk;unfold cut at hk;split at hk
    .exact⟨‹_›,hk⟩
    .cases hk
   rw[e1,e2,e3];refine⟨hs.dfr,v,hv,v,cut (F.own' i).length μ2,rfl,⟨λk x hk=> ?_,λk k' x x' b hk df=>hs.own.inj k k' x x' b (nh hk).2 (nh df).2,λk x b hk hx=> ?_,hs.own.bnd⟩,λk hk=>by unfold cut;rw[if_neg Dj],c11 hH (Pi hd hr1) bh,λk x hk hc hx=> ?_,hs.fr⟩
   .obtain⟨b6,hk⟩:=nh hk;obtain⟨bl,e1,hb⟩:=hs.own.blk k x hk;obtain⟨b,e2,bj⟩:=b28 hr3 k _ (Ig b6);rw[e1]at e2;cases e2;exact⟨_,Ig b6,Blk.le_sound hH hb bj⟩
   .exact hs.own.rng k x b (nh hk).2 hx
   .have pe:(E i μ).ak k=true:=by
     unfold Env.ak;rw[Zp,W0];simp only[I3];exact⟨Dj,by rw[hc];rfl⟩
    have:=hs.anc k x (by unfold Env.an;rw[if_pos pe,Zq];exact hx);have ru:k<(F.own' i).length:=by exact Jf Dj (gp i)
    unfold cut;rw[Ih ru];exact this
  .exact hr.elim
end Go.Proofs.YtngppkidkigcbaaGreatDoor.V
