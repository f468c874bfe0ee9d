/-
  Parts of the proof: G0 E1 G2 V15 V15b V16 W1 W2 W3 W4 G1 O1 V17 V18 V19 R1 V20. Conditions: none.
-/
import Derived.Test.YtlffhjfkaepimaaGreatDoorGec1
import Derived.ProofKit
import Derived.LaidMore
import Derived.LaidHandle
import Derived.OpenShut
import Derived.Carry
import Derived.Stop.Joined
set_option maxRecDepth 100000
set_option maxHeartbeats 40000000
namespace Go.Proofs.YtlffhjfkaepimaaGreatDoor.V
open Go
section
variable{w:World}{H H':Nat->Prop}{μ μ':Mu}
theorem D.shift(A:∀b,H' b->H b)(f:∀j x,μ j=some x->(∀n z,x≠BQ n z)->μ' j=some x)
 (E:∀j n z,μ j=some (BQ n z)->∃k l,μ' j=some (BQ k l)/\∀(i:Nat) (p:Value),n[i]?=some p->k[i]?=some p) {s:SV} {v:Value} (h:D w H μ s v):D w H' μ' s v:=by
 induction h with
 |int=>exact .int
 |bool=>exact .bool
 |con=>exact .con
 |own h=>exact .own (f _ _ h (λ_ _ e=>E8))
 |osl h=>exact .osl (f _ _ h (λ_ _ e=>E8))
 |oel h=>exact .oel (f _ _ h (λ_ _ e=>E8))
 |omp h=>exact .omp (f _ _ h (λ_ _ e=>E8))
 |mp r g q B c t d=>exact .mp r g (λu=>q (A _ u)) B c d
 |sl a b o m g B hx F C c t d=>
  exact .sl a b o m g B hx F (λG=>by obtain⟨e,q,I⟩:=C G;exact⟨e,λu=>q (A _ u),I⟩) c d
 |rel b o g J q C c t d=>exact .rel b o g J (λu=>q (A _ u)) C c d
 |agg y c t d=>exact .agg y c d
 |tup y c t d=>exact .tup y c d
 |clo y c t d=>exact .clo y c d
 |fp h=>exact D.fp_mk (λn z e=>by obtain⟨k,l,K,L⟩:=E _ _ _ e;exact⟨k,l,K,λp=>L _ p⟩) h
 |ub M N=>exact .ub M N
 |any=>exact .any
theorem SE.shift(a:∀s v,D w H μ s v->D w H' μ' s v){x:Value}{T:TypeId}{cs:List SV}(h:SE w H μ x T cs):SE w H' μ' x T cs:=by obtain⟨b,c,rfl,d,e,f,g⟩:=h;exact⟨b,c,rfl,d,e,f,λi s v hs j=>a _ _ (g i s v hs j)⟩
theorem JW.shift(g:∀s v,s.pure=true->D w H μ s v->D w H' μ' s v){x:Value}{T:TypeId}{sz n:Nat}{f:Nat->List SV}{c:Option Nat}(h:JW w H μ x T sz n f c):JW w H' μ' x T sz n f c:=by
 obtain⟨a,m,rfl,k,l,p,d,q⟩:=h;refine⟨a,m,rfl,k,l,p,d,?_⟩;rcases q with h|⟨b,o,r,t,rfl,u,y,z,A⟩
 .exact .inl h
 .exact .inr ⟨b,o,r,t,rfl,u,y,z,λi j s v e hs B=>g _ _ (Jr.1 (d i e).2 s (Jn hs)) (A i j s v e hs B)⟩
theorem FamOK.less(e:∀b,H' b->H b){T:TypeId}{a:List (TypeId×Nat)}{n:Nat}{c:Option Nat}{F:Nat->Mem}{ps:List Value}{d:List (List Value)}(h:FamOK w H T a n c F ps d):FamOK w H' T a n c F ps d:=
 h.keep ⟨Jp _,λ_ _ _=>rfl,λb _=>e b⟩ (λ_ _=>rfl)
theorem DX.shift(hH:∀b,H' b->H b)(m:∀j x,μ j=some x->(∀ps qs,x≠BQ ps qs)->μ' j=some x)
 (A:∀j ps qs,μ j=some (BQ ps qs)->∃a d,μ' j=some (BQ a d)/\∀(i:Nat) (p:Value),ps[i]?=some p->a[i]?=some p) {x:Value} {bl:Blk} (h:DX w H μ x bl):DX w H' μ' x bl:=by
 have l:∀s v,D w H μ s v->D w H' μ' s v:=λs v h=>h.shift hH m A;cases bl with
 |cells T cs=>exact SE.shift l h
 |row T B n f c=>exact JW.shift (λs v _=>l s v) h
 |map K ag o val=>
  obtain⟨r,g,rfl,t,E,y⟩:=h;exact⟨r,g,rfl,t,E,λq i s v z hs G=>l _ _ (y q i s v z hs G)⟩
 |fam T Ts n bz F=>
  obtain⟨ps,qs,rfl,h,I⟩:=h;refine⟨ps,qs,rfl,h.less hH,λi c e=> ?_⟩;obtain⟨p,e1,J⟩:=I i c e;have L:i<n:=Ha;obtain⟨b,us,C,_⟩:=h.mem i L;rw[e1]at C;cases C;exact⟨_,e1,m _ _ J (λ_ _ e=>E8)⟩
 |pmap K k o BU=>
  obtain⟨⟨ps,qs,M⟩,r,g,rfl,t,y⟩:=h;obtain⟨a,d,N,_⟩:=A _ _ _ M;exact⟨⟨a,d,N⟩,r,g,rfl,t,λq z=>by obtain⟨p,e,h⟩:=y q z;exact⟨p,e,l _ _ h⟩⟩
 |rowh T B n f c i u=>
  have:=Om.to id (λ_ _=>rfl) (λs v _ h=>l s v h) l h;rwa[List.map_id]at this
 |pool T B n l al ln ct=>
  obtain⟨ps,qs,rfl,h⟩:=h;exact De
 |dead=>exact Jm
end
section
theorem El.shift{w:World}{H H':Nat->Prop}{μ μ':Mu}{tmps:Array Value}{ρ:List Entry}(a:∀s v,D w H μ s v->D w H' μ' s v)(h:El w H μ tmps ρ):El w H' μ' tmps ρ:=by
 intro t e b;have:=h t e b;unfold DE at this⊢;split at this
 .exact a _ _ this
 .exact⟨λc=>a _ _ (this.1 c),this.2⟩
end
def EM(c m k:Nat):Bool:=decide (c<=k)&&decide (k<=c+m)
def SV.ment0(c m:Nat):SV->Bool
 |.own k _|.osl k|.omp k|.oel k _ _ _=>EM c m k
 |.fp _ k _ _=>EM c m k
 |.agg _|.tup _=>true
 |.clo _ a=> !a.isEmpty
 |_=>false
def SV.uf0(c m:Nat)(s:SV):SV:=match s with
 |.clo f a=>if a.all (λs=> !s.ment0 c m)then .clo f a else .any
 |s=>if s.ment0 c m then .any else s
def SV.uf1(c m:Nat):SV->SV
 |.agg a=>.agg (a.map (SV.uf0 c m))
 |s=>s.uf0 c m
def SV.uf2(c m:Nat):SV->SV
 |.tup a=>.tup (a.map (SV.uf1 c m))
 |s=>s.uf1 c m
def Blk.uf(c m:Nat):Blk->Blk
 |.cells T e=>.cells T (e.map (SV.uf0 c m))
 |.pmap K k a BU=>if EM c m k then .dead else .pmap K k a BU
 |.fam T g n (some (i,d)) F=>if EM c m d then .dead else .fam T g n (some (i,d)) F
 |.rowh T h n f j i u=>.rowh T h n f j i (u.map (SV.uf0 c m))
 |b=>b
structure Drop (c m:Nat) (H H':Nat->Prop) (μ μ':Mu):Prop where
 less:∀b,H' b->H b
 own:∀j x,EM c m j=false->μ j=some x->(∀ps qs,x≠BQ ps qs)->μ' j=some x
 fam:∀j ps qs,EM c m j=false->μ j=some (BQ ps qs)->∃ps' qs',μ' j=some (BQ ps' qs')/\∀(i:Nat) (p:Value),ps[i]?=some p->ps'[i]?=some p
section
variable{w:World}{H H':Nat->Prop}{μ μ':Mu}{c m:Nat}
theorem Ya(d:Drop c m H H' μ μ'){s:SV}{v:Value}(h:D w H μ s v)(hs:s.ment0 c m=false):D w H' μ' s v:=by
 cases h with
 |own h=>exact .own (d.own _ _ hs h (λ_ _ e=>E8))
 |osl h=>exact .osl (d.own _ _ hs h (λ_ _ e=>E8))
 |oel h=>exact .oel (d.own _ _ hs h (λ_ _ e=>E8))
 |omp h=>exact .omp (d.own _ _ hs h (λ_ _ e=>E8))
 |fp h=>exact D.fp_mk (λps qs e=>by obtain⟨j,k,t,u⟩:=d.fam _ _ _ hs e;exact⟨j,k,t,λp=>u _ p⟩) h
 |agg vs hl f=>simp[SV.ment0]at hs
 |tup vs hl f=>simp[SV.ment0]at hs
 |clo vs hl f=>
  simp only[SV.ment0,Bool.not_eq_false',List.isEmpty_iff]at hs;subst hs;exact Cd
 |int=>exact .int
 |bool=>exact .bool
 |con=>exact .con
 |ub x y=>exact .ub x y
 |any=>exact .any
 |sl a b o m g l hx z n hl f=>exact IK d.less (.sl a b o m g l hx z n hl f) rfl
 |rel b o g A q n hl f=>exact IK d.less (.rel b o g A q n hl f) rfl
 |mp r g q l hl f=>exact IK d.less (.mp r g q l hl f) rfl
theorem YS(a:Drop c m H H' μ μ'){s:SV}{v:Value}(h:D w H μ s v):D w H' μ' (s.uf0 c m) v:=by
 unfold SV.uf0;split
 .split
  .rename_i b;cases h with
   |clo d e f=>
    exact .clo d e (λi s v hs g=>Ya a (f i s v hs g) (by simpa using Jr.1 b s (Jn hs)))
  .exact .any
 .split
  .exact .any
  .rename_i hs;exact Ya a h G4
theorem c9q(a:Drop c m H H' μ μ'){s:SV}{v:Value}(h:D w H μ s v):D w H' μ' (s.uf1 c m) v:=by
 unfold SV.uf1;split
 .cases h with
  |agg b hl d=>
   refine .agg b Ef (λi s v hs e=> ?_);simp only[Iy]at hs;obtain⟨f,g,rfl⟩:=hs;exact YS a (d i f v g e)
 .exact YS a h
theorem c7a(a:Drop c m H H' μ μ'){s:SV}{v:Value}(h:D w H μ s v):D w H' μ' (s.uf2 c m) v:=by
 unfold SV.uf2;split
 .cases h with
  |tup b hl d=>
   refine .tup b Ef (λi s v hs e=> ?_);simp only[Iy]at hs;obtain⟨f,g,rfl⟩:=hs;exact c9q a (d i f v g e)
 .exact c9q a h
theorem DX.drop(a:Drop c m H H' μ μ'){x:Value}{bl:Blk}(h:DX w H μ x bl):DX w H' μ' x (bl.uf c m):=by
 cases bl with
 |cells T cs=>
  obtain⟨b,M,rfl,j,hl,N,I⟩:=h;refine⟨b,M,rfl,j,Ef,N,λi s v hs y=> ?_⟩;simp only[Iy]at hs;obtain⟨O,P,rfl⟩:=hs;exact YS a (I i O v P y)
 |row T J n f c=>exact JW.shift (λs v z hs=>IK a.less hs z) h
 |map K ag A val=>
  obtain⟨r,g,rfl,B,hl,C⟩:=h;exact⟨r,g,rfl,B,hl,λq i s v o hs y=>IK a.less (C q i s v o hs y) (Jr.1 (hl q o).2 s (Jn hs))⟩
 |fam T Ts n Q F=>
  obtain⟨ps,l,rfl,h,j⟩:=h;match Q,h,j with
  |none,h,j=>exact⟨ps,l,rfl,h.less a.less,λi c e=>E8⟩
  |some (i,d),h,j=>
   simp only[Blk.uf];split
   .exact Jm
   rename_i t;refine⟨ps,l,rfl,h.less a.less,λi' c' e=> ?_⟩;cases e;obtain⟨p,e1,R⟩:=j i d rfl;have S:i<n:=Ha;obtain⟨b,us,L,_⟩:=h.mem i S;rw[e1]at L;cases L;exact⟨_,e1,a.own _ _ (by simpa using t) R (λ_ _ e=>E8)⟩
 |pmap K k A BU=>
  simp only[Blk.uf];split
  .exact Jm
  rename_i t;obtain⟨⟨ps,l,U⟩,r,g,rfl,B,C⟩:=h;obtain⟨E,G,V,_⟩:=a.fam _ _ _ (by simpa using t) U;exact⟨⟨E,G,V⟩,r,g,rfl,B,λq o=>by obtain⟨p,e,h⟩:=C q o;exact⟨p,e,Ya a h (by simpa[SV.ment0]using t)⟩⟩
 |rowh T J n f cp i u=>exact Om.to (SV.uf0 c m) (λ_ _=>rfl) (λs v z h=>IK a.less h z) (λs v h=>YS a h) h
 |pool T J n I al ln ct=>
  obtain⟨ps,l,rfl,h⟩:=h;exact⟨ps,l,rfl,h.keep (ps:=ps) ⟨Jp _,λ_ _ _=>rfl,λb _=>a.less b⟩ (λ_ _=>rfl)⟩
 |dead=>exact Jm
theorem El.drop(a:Drop c m H H' μ μ'){tmps:Array Value}{ρ:List Entry}(h:El w H μ tmps ρ):El w H' μ' tmps (ρ.map λe=>{e with sv:=e.sv.uf2 c m}):=by
 intro t e b;rw[VS (f:=λ(e:Entry)=>{e with sv:=e.sv.uf2 c m}) (λ_=>rfl),Jq]at b;obtain⟨d,g,rfl⟩:=b;have:=h t d g;unfold DE at this⊢;simp only;split at this
 .exact c7a a this
 .exact⟨λi=>c7a a (this.1 i),this.2⟩
end
def nilB:SV->Bool
 |.con (.slice none 0 0)=>true
 |_=>false
def lz:Nat->List SV->List SV
 |_,[]=>[]
 |t,s::r=>match nilB s with
  |true=>.osl t::lz (t+1) r
  |false=>s::lz t r
def Qj:List SV->Nat
 | []=>0
 |s::r=>match nilB s with
  |true=>Qj r+1
  |false=>Qj r
theorem c2d:∀(t:Nat) (l:List SV),(lz t l).length=l.length
 |_,[]=>rfl
 |t,s::r=>by simp only[lz];split<;>simp[c2d]
theorem d5n:∀(t:Nat) (l:List SV) (i:Nat) (s:SV),(lz t l)[i]?=some s->(∃j,s=.osl j/\t<=j/\j<t+Qj l/\l[i]?=some (.con (.slice none 0 0)))\/l[i]?=some s
 |_,[],i,s,h=>by simp[lz]at h
 |t,x::r,i,s,h=>by
  simp only[lz]at h;split at h
  .rename_i a;have hx:x=.con (.slice none 0 0):=by
    unfold nilB at a;split at a
    .rfl
    .cases a
   have b:Qj (x::r)=Qj r+1:=by simp only[Qj,a]
   match i with
   |0=>simp at h;exact .inl ⟨t,h.symm,Jp _,Dz,Ej⟩
   |i+1=>
    rcases d5n (t+1) r i s E6 with⟨j,c,d,e,h4⟩|h4
    .exact .inl ⟨j,c,Dz,Dz,Fk⟩
    .exact .inr Fk
  .rename_i a;have b:Qj (x::r)=Qj r:=by simp only[Qj,a]
   match i with
   |0=>exact .inr h
   |i+1=>
    rcases d5n t r i s E6 with⟨j,c,d,e,h4⟩|h4
    .exact .inl ⟨j,c,d,Dz,Fk⟩
    .exact .inr Fk
def b5r(E:Env)(st:St)(T:TypeId)(g sk h:SV):Option (Prop×St):=match g with
 |.omp a=>match st.own[a]? with
  |some (.pmap K k c BU)=>match h with
   |.own j 0=>match st.own[k]?,st.own[j]? with
    |some (.fam f d n none F),some (.cells i b)=>match E.P.underlying T with
     |some (.map _ _)=>if E.kt T=some K/\f=i/\Qj b=d.length/\(lz 0 b).all SV.memc=true/\b.all SV.pure=true/\j≠k/\a≠k/\a≠j/\E.ak k=false/\E.ak j=false then
      (Xx K sk).map λq=>(True,⟨st.ρ.map λe=>{e with sv:=e.sv.uf2 j 0},
        (((st.own.map (Blk.uf j 0)).set k (.fam f d (n+1) none (λx=>if x=n then⟨lz 0 b,d.map λ_=>(0,λ_=>[])⟩else F x))).set j .dead).set a (.pmap K k (KV c q) (λp=>if p=q then n else BU p))⟩)
      else none
     |_=>none
    |_,_=>none
   |_=>none
  |_=>none
 |_=>none
section
variable{E:Env}{B0:Nat}{X A:Nat->Prop}{w0:World}{nt:Nat}{st:St}{a:Act}{w:World}{μ:Mu}
theorem b7p(hE:EnvOK E)(h:SD E B0 X A w0 nt st a w μ){T:TypeId}{m i x:SV}{vm vi vx:Value}{pre:Prop}{st':St}(hm:D w (held A μ) μ m vm)(hi:D w (held A μ) μ i vi)(hx:D w (held A μ) μ x vx)(C:b5r E st T m i x=some (pre,st')):
 ∃w' μ',(Instr.mapUpdate T vm vi vx).run E.P w=.ok () w'/\SD E B0 X A w0 nt st' a w' μ':=by
 unfold b5r at C;split at C;rotate_left
 .cases C
 rename_i S;split at C;rotate_left
 .cases C
 rename_i K k has BU U;split at C;rotate_left
 .cases C
 rename_i j;split at C;rotate_left
 .cases C
 rename_i Tf Ts n F Tc cs hk hj;split at C;rotate_left
 .cases C
 rename_i ky elem hT;split at C;rotate_left
 .cases C
 rename_i I;obtain⟨zt,rfl,hnil,wm,ti,Zr,W6,hj0j,s4,haj⟩:=I;simp only[It]at C;obtain⟨q,hq,rfl,rfl⟩:=C;obtain⟨ky',elem',te,nf⟩:=hE.kt T K zt;rw[hT]at te;cases te;obtain⟨rfl,pt⟩:=b1p hq hi;cases hm with
 |omp f=>
 cases hx with
 |own d=>
 rename_i b;obtain⟨bl,e,ba⟩:=h.own.blk _ _ f;rw[U]at e;cases e;obtain⟨⟨ps,M,hμk⟩,r,g,e1,td,hD⟩:=ba;cases e1;obtain⟨bl,e,ba⟩:=h.own.blk _ _ hμk;rw[hk]at e;cases e;obtain⟨ps',qs',e1,db,_⟩:=ba;obtain⟨rfl,rfl⟩:=PW e1;simp only[Option.map_none]at db;obtain⟨bl,e,ba⟩:=h.own.blk _ _ d;rw[hj]at e;cases e;obtain⟨b',vs,e1,hh,hl,c7,hd⟩:=ba;cases e1;have hv:(Value.pointer (some ⟨b,0,none⟩))=IX false [.pointer (some ⟨b,0,none⟩)]:=rfl;obtain⟨o,bt,zw⟩:=b3a (w:=w) hv hT nf td pt;have b6:=td.lt;have nj:k<st.own.length:=(Jk.1 hk).1;have np:j<st.own.length:=(Jk.1 hj).1;have hj0lt:S<st.own.length:=(Jk.1 U).1;let B:List Value:=.pointer (some ⟨b,0,none⟩)::Ts.map λ_=>Value.slice none 0 0
 let μ':Mu:=λy=>if y=k then some (BQ (ps++[.pointer (some ⟨b,0,none⟩)]) (M++[B]))else if y=j then none else μ y
 have m1:μ' k=some (BQ (ps++[.pointer (some ⟨b,0,none⟩)]) (M++[B])):=by simp[μ']
 have m2:μ' j=none:=by simp[μ',Zr]
 have m3:∀y,y≠k->y≠j->μ' y=μ y:=λy N O=>by simp[μ',N,O]
 have bh:∀{y x},μ' y=some x->(y=k/\x=BQ (ps++[.pointer (some ⟨b,0,none⟩)]) (M++[B]))\/(y≠k/\y≠j/\μ y=some x):=by
  intro y x hy;by_cases e1:y=k
  .exact Df
  .by_cases G:y=j
   .subst G;rw[m2]at hy;cases hy
   .rw[m3 y e1 G]at hy;exact .inr ⟨e1,G,hy⟩
 have nr:∀(Q:Nat) (u:Value) (c:Nat),B[Q]?=some u->FO u=some c->Q=0/\c=b:=by
  intro Q u c N O;match Q with
  |0=>simp[B]at N;subst N;simp[FO]at O;exact⟨rfl,O.symm⟩
  |Q+1=>
   simp only[B,M0,Iy]at N;obtain⟨_,_,rfl⟩:=N;rw[WD]at O;cases O
 have d9:∀{i' j' J u c},M[i']?=some J->J[j']?=some u->FO u=some c->CS (BQ ps M) c:=λg1 l L=>Oc.2 ⟨_,_,Jn g1,Jn l,L⟩;have H:∀{y x c},μ' y=some x->CS x c->(y=k/\CS (BQ ps M) c)\/(y=k/\c=b)\/(y≠k/\y≠j/\μ y=some x):=by
  intro y x c hy hx;rcases bh hy with⟨rfl,rfl⟩|Y
  .obtain⟨J,u,g1,l,L⟩:=Oc.1 hx;rcases K6.1 g1 with g1|g1
   .exact .inl ⟨rfl,Oc.2 ⟨J,u,g1,l,L⟩⟩
   .simp only[Kb]at g1;subst g1;obtain⟨Q,hjj⟩:=Lg.1 l;exact .inr (.inl ⟨rfl,(nr Q u c hjj L).2⟩)
  .exact .inr (.inr Y)
 have V:CS (.pointer (some ⟨b,0,none⟩)) b:=c6t.2 rfl;have be:∀c,held A μ' c->held A μ c:=by
  rintro c (I|⟨y,x,hy,hx⟩)
  .exact .inl I
  .rcases H hy hx with⟨_,N⟩|⟨_,rfl⟩|⟨_,_,Y⟩
   .exact .inr ⟨k,_,hμk,N⟩
   .exact .inr ⟨j,_,d,V⟩
   .exact .inr ⟨y,x,Y,hx⟩
 have wu:CS (.map (some r)) r:=d4h.2 rfl;have c8:Keeps w (putObj w r o) (held A μ) (held A μ) μ μ:=⟨G5,λc _ I=>UA (λe=>I (by subst e;exact .inr ⟨S,_,f,wu⟩)),λ_ _ h=>h,λ_ _ h=>h⟩
 have dp:Drop j 0 (held A μ) (held A μ') μ μ':=by
  refine⟨be,λy x hy hx Zi=> ?_,λy ps2 qs2 hy hx=> ?_⟩
  .have e1:y≠j:=λe=>by subst e;simp[EM]at hy
   have G:y≠k:=λe=>I9;rw[m3 y G e1];exact hx
  .have e1:y≠j:=λe=>by subst e;simp[EM]at hy
   by_cases G:y=k
   .subst G;rw[hμk]at hx;obtain⟨rfl,rfl⟩:=PW (Km hx);exact⟨_,_,m1,λi p hp=>by rw[Jt (Jk.1 hp).1];exact hp⟩
   .exact⟨ps2,qs2,(m3 y G e1).trans hx,λ_ _ h=>h⟩
 have hB:=(h.own.rng S _ r f wu).2.2;have W:∀y x,y≠S->μ y=some x->∀c,CS x c->(putObj w r o).heap[c]?=w.heap[c]?:=λy x hy hx c I=>UA (λe=>by subst e;exact hy (h.own.inj y S x _ _ hx f I wu))
 have Zs:∀s v,s.pure=true->D w (held A μ) μ s v->D (putObj w r o) (held A μ') μ' s v:=λs v hp hs=>IK be (hs.keep c8) hp;refine⟨_,μ',bt,⟨λy x hy=> ?_,λy y' x x' c hy Z hx cx=> ?_,λy x c hy hx=> ?_,λc I=>by rw[Xe];exact h.own.bnd c I⟩,h.fr.trans ⟨rfl,rfl,rfl,λ_=>Jp _,G5,λi hi hX=>UA (λe=>by subst e;rcases hB with hb|hb;omega;exact hX hb)⟩,
  by rw[Xe];exact h.base,λg s hg=>⟨(h.glo g s hg).1,Zs _ _ (h.glo g s hg).1 (h.glo g s hg).2⟩,h.dfr,h.size,(h.env.keep c8).drop dp,λy hy=> ?_,λy x hx=> ?_⟩
 .rcases bh hy with⟨rfl,rfl⟩|⟨W7,hyj,Z⟩
  .refine⟨.fam Tf Ts (n+1) none (λx=>if x=n then⟨lz 0 cs,Ts.map λ_=>(0,λ_=>[])⟩else F x),by rw[Jz W6,Jz Zr,Kv (by simpa using nj)],_,_,rfl,⟨by simp[db.pl],by simp[db.ql],λi1 j1 i2 j2 R J u1 u2 c g1 l L g4 g5 g6=> ?_,λi1 dj=> ?_⟩,λi c e=>E8⟩
   .have at':∀{i us},(M++[B])[i]?=some us->M[i]?=some us/\i<M.length\/i=M.length/\us=B:=by
     intro i us hi;by_cases b6:i<M.length
     .rw[Jt b6]at hi;exact .inl ⟨hi,b6⟩
     .rw[Jy Dz]at hi;match br:i-M.length,hi with
      |0,hi=>simp at hi;exact .inr ⟨Dz,hi.symm⟩
      |z+1,hi=>simp at hi
    rcases at' g1 with⟨k1,_⟩|⟨e1,rfl⟩<;>rcases at' g4 with⟨k4,_⟩|⟨G,rfl⟩
    .exact db.nd i1 j1 i2 j2 R J u1 u2 c k1 l L k4 g5 g6
    .have:=(nr j2 u2 c g5 g6).2;subst this;exact absurd (h.own.inj y j _ _ c hμk d (d9 k1 l L) V) (Ne.symm Zr)
    .have:=(nr j1 u1 c l L).2;subst this;exact absurd (h.own.inj y j _ _ c hμk d (d9 k4 g5 g6) V) (Ne.symm Zr)
    .exact⟨Dz,(nr j1 u1 c l L).1.trans (nr j2 u2 c g5 g6).1.symm⟩
   .by_cases g9:i1<n
    .obtain⟨b1,R,g1,l,L⟩:=db.mem i1 g9;refine⟨b1,R,by rw[Jt (by rw[db.pl];exact g9)];exact g1,by rw[Jt (by rw[db.ql];exact g9)];exact l,.inr ⟨E2,?_⟩⟩;rcases L with⟨L,_⟩|⟨_,us3,e3,g4⟩
     .cases L
     .refine⟨us3,e3,?_⟩;rw[Jj Dz];refine g4.keep ⟨G5,λc _ I=>UA (λe=>I (by subst e;exact .inr ⟨S,_,f,wu⟩)),λc _=>be c⟩ (λu c hu R1=>W y _ (Ne.symm W6) hμk c (Oc.2 ⟨R,u,Jn l,?_,R1⟩));subst e3;rcases hu with rfl|hu
      .simp
      .simp[hu]
    .have:i1=n:=Dz;subst this;refine⟨b,B,Ip,by rw[Jy (by rw[db.ql];exact Jp _),db.ql,L3];rfl,.inr ⟨E2,_,rfl,?_⟩⟩;rw[Ji rfl];refine⟨⟨b,vs,rfl,(W j _ (Ne.symm hj0j) d b V).trans hh,by rw[hl,c2d],c7,λi s v hs hv=> ?_⟩,wm,E2,E2,λt tt rr u N O Y=> ?_⟩
     .rcases d5n 0 cs i s hs with⟨Q,rfl,_,hjj,fm⟩|fm
      .have:=hd i _ v fm hv;cases this;have hjj':Q<Ts.length:=by rw[<-hnil];omega
       exact .osl (n:=0) (m:=0) (a:=none) (by simp[loc,Jh hjj'])
      .exact IK be ((hd i s v fm hv).keep c8) (Jr.1 ti s (Jn fm))
     .simp only[Iy]at O Y;obtain⟨_,_,rfl⟩:=O;obtain⟨_,_,rfl⟩:=Y;exact⟨none,0,rfl,Jp _,Ff,.inl rfl,λi hi=>absurd hi (K5 _),.inl rfl⟩
  .obtain⟨bl,e,hb⟩:=h.own.blk y x Z;have hylt:y<st.own.length:=(Jk.1 e).1;by_cases ey:y=S
   .subst ey;rw[U]at e;cases e;rw[f]at Z;cases Z;refine⟨.pmap K k (KV has q) (λp=>if p=q then n else BU p),by rw[Kv (by simpa using hylt)],⟨_,_,m1⟩,r,_,rfl,zw,λp hp=> ?_⟩;by_cases ep:p=q
    .refine⟨.pointer (some ⟨b,0,none⟩),by simp[ep],?_⟩;simp only[ep,L1];refine .fp ?_;simp only[L1];exact⟨_,_,b,m1,Ip,rfl⟩
    .have zj:has p=true:=Hb;obtain⟨v,e,fj⟩:=hD p zj;refine⟨v,by simp[ep,e],?_⟩;simp only[ep,if_false];exact Ya dp (fj.keep c8) (by simp[SV.ment0,EM];omega)
   .refine⟨bl.uf j 0,by rw[Jz (Ne.symm ey),Jz (Ne.symm hyj),Jz (Ne.symm W7),K9,e];rfl,?_⟩;exact(hb.keep c8 (λc I=>W y x ey Z c I)).drop dp
 .rcases H hy hx with⟨e1,g1⟩|⟨e1,g1⟩|⟨e1,e1',g1⟩<;>rcases H Z cx with⟨G,l⟩|⟨G,l⟩|⟨G,e2',l⟩
  .omega
  .omega
  .exact absurd (h.own.inj y' k _ _ c l hμk cx g1) G
  .omega
  .omega
  .subst g1;exact absurd (h.own.inj y' j _ _ c l d cx V) e2'
  .exact absurd (h.own.inj y k _ _ c g1 hμk hx l) e1
  .subst l;exact absurd (h.own.inj y j _ _ c g1 d hx V) e1'
  .exact h.own.inj y y' x x' c g1 l hx cx
 .rw[Xe];rcases H hy hx with⟨e1,g1⟩|⟨e1,g1⟩|⟨e1,e1',g1⟩
  .exact h.own.rng k _ c hμk g1
  .subst g1;exact h.own.rng j _ c d V
  .exact h.own.rng y x c g1 hx
 .simp only[Li,Kh]at hy;rw[m3 y Dz Dz];exact h.fresh y hy
 .have e1:y≠k:=λe=>Hd;have G:y≠j:=λe=>by subst e;rw[Env.an_ak hx]at haj;cases haj
  rw[m3 y e1 G];exact h.anc y x hx
end
def SV.fz0(s:SV)(k:Nat)(t:SV):SV:=match s with
 |.osl j=>if j=k then t else .osl j
 |s=>s.kill0 [k]
def SV.fz1(s:SV)(k:Nat)(t:SV):SV:=match s with
 |.agg a=>.agg (a.map λs=>s.fz0 k t)
 |s=>s.fz0 k t
def SV.fz2(s:SV)(k:Nat)(t:SV):SV:=match s with
 |.tup a=>.tup (a.map λs=>s.fz1 k t)
 |s=>s.fz1 k t
def Blk.fz(b:Blk)(k:Nat)(t:SV):Blk:=match b with
 |.cells T d=>.cells T (d.map λs=>s.fz0 k t)
 |.pmap K j a BU=>if j=k then .dead else .pmap K j a BU
 |.rowh T e n f c i u=>.rowh T e n f c i (u.map λs=>s.fz0 k t)
 |b=>b
def Mu.drop(k:Nat)(μ:Mu):Mu:=λj=>if j=k then none else μ j
section
variable{w:World}{H H':Nat->Prop}{μ μ':Mu}{k:Nat}{t:SV}
theorem b1h(a:Keeps' [k] w w H H' μ μ')(b:∀v,μ k=some v->D w H' μ' t v){s:SV}{v:Value}(h:D w H μ s v):D w H' μ' (s.fz0 k t) v:=by
 unfold SV.fz0;split
 .rename_i j;split
  .rename_i e;subst e;cases h with
   |osl h=>exact b _ h
  .rename_i e;cases h with
   |osl h=>exact .osl (a.own _ _ Ey h)
 .exact Yo a h
theorem b8w(a:Keeps' [k] w w H H' μ μ')(b:∀v,μ k=some v->D w H' μ' t v){s:SV}{v:Value}(h:D w H μ s v):D w H' μ' (s.fz1 k t) v:=by
 unfold SV.fz1;split
 .cases h with
  |agg c hl d=>
   refine .agg c Ef (λi s v hs e=> ?_);simp only[Iy]at hs;obtain⟨f,g,rfl⟩:=hs;exact b1h a b (d i f v g e)
 .exact b1h a b h
theorem b8e(a:Keeps' [k] w w H H' μ μ')(b:∀v,μ k=some v->D w H' μ' t v){s:SV}{v:Value}(h:D w H μ s v):D w H' μ' (s.fz2 k t) v:=by
 unfold SV.fz2;split
 .cases h with
  |tup c hl d=>
   refine .tup c Ef (λi s v hs e=> ?_);simp only[Iy]at hs;obtain⟨f,g,rfl⟩:=hs;exact b8w a b (d i f v g e)
 .exact b8w a b h
theorem DX.fz(a:Keeps' [k] w w H H' μ μ')(l:∀v,μ k=some v->D w H' μ' t v){x:Value}{bl:Blk}(h:DX w H μ x bl):DX w H' μ' x (bl.fz k t):=by
 cases bl with
 |cells T cs=>
  obtain⟨b,y,rfl,z,hl,A,d⟩:=h;refine⟨b,y,rfl,z,Ef,A,λi s v hs B=> ?_⟩;simp only[Iy]at hs;obtain⟨C,E,rfl⟩:=hs;exact b1h a l (d i C v E B)
 |row T m n f c=>
  have:=DX.change a (λ_ _=>rfl) h;exact this
 |map K ag j val=>
  have:=DX.change a (λ_ _=>rfl) h;exact this
 |fam T Ts n bz F=>
  have:=DX.change a (λ_ _=>rfl) h;exact this
 |pmap K k' j BU=>
  simp only[Blk.fz];split
  .exact Jm
  rename_i o;obtain⟨⟨G,I,J⟩,r,g,rfl,L,d⟩:=h;refine⟨⟨G,I,a.own _ _ (by simpa using o) J⟩,r,g,rfl,L,λq M=> ?_⟩;obtain⟨p,e,h⟩:=d q M;exact⟨p,e,b32 a (by simpa using o) h⟩
 |rowh T m n f c i u=>exact Om.to (λs=>s.fz0 k t) (λ_ _=>rfl) (λs v N h=>LA a h N) (λs v h=>b1h a l h) h
 |pool T m n d al ln ct=>
  have:=DX.change a (λ_ _=>rfl) h;exact this
 |dead=>exact Jm
end
theorem c7e{w:World}{H H':Nat->Prop}{μ μ':Mu}{x:Value}{T:TypeId}{sz n:Nat}{f:Nat->List SV}{c:Option Nat}(l:∀b,H' b->H b)(hx:∀b,CS x b->¬H' b)(h:DX w H μ x (.row T sz n f c)):D w H' μ' (.sl sz n f c) x:=by
 obtain⟨a,m,rfl,hn,hm,hc,hl,q⟩:=h;rcases q with rfl|⟨b,o,e,r,rfl,g,ho,h1,t⟩
 .exact Cv
 .have u:¬H' b:=hx b (KG r);have k:∀i j,i<n->j<sz->o+i*sz+j<e.length:=λi j hi d=>by
   have:=LO hi d;have:n*sz<=m*sz:=Kr _ hn;omega
  refine .sl _ b o m (λi j=>e.getD (o+i*sz+j) undef) hn hm hc (λ_=>⟨rfl,u,Pz g,λi j hi d=> ?_⟩) hl (λi j s hi hs=> ?_)
  .have:=k i j hi d;rw[TM g,Jh this];simp only[J8,Jh this];exact Cw
  .have d:j<sz:=Gh;have:=k i j hi d;simp only[J8,Jh this];exact GW l (t i j s _ hi hs (Jh this)) (Jr.1 (hl i hi).2 s (Jn hs))
def St.fz(E:Env)(k:Nat)(st:St):St:=match st.own[k]? with
 |some (.row _ a n f c)=>if E.ak k then st else⟨st.ρ.map λe=>{e with sv:=e.sv.fz2 k (.sl a n f c)},st.own.map λb=>b.fz k (.sl a n f c)⟩
 |_=>st
section
variable{E:Env}{B0:Nat}{X A:Nat->Prop}{w0:World}{nt:Nat}{st:St}{a:Act}{w:World}{μ:Mu}
theorem d0j(h:SD E B0 X A w0 nt st a w μ)(k:Nat):∃μ',SD E B0 X A w0 nt (st.fz E k) a w μ':=by
 unfold St.fz;split;rotate_left
 .exact⟨μ,h⟩
 rename_i T q n f c F;split
 .exact⟨μ,h⟩
 rename_i H;have r:∀b,held A (μ.drop k) b->held A μ b:=by
  intro b d;rcases d with d|⟨j,x,hj,hx⟩
  .exact .inl d
  .unfold Mu.drop at hj;split at hj
   .cases hj
   .exact .inr ⟨j,x,hj,hx⟩
 have u:Keeps' [k] w w (held A μ) (held A (μ.drop k)) μ (μ.drop k):=⟨Jp _,λ_ _ _=>rfl,λb _ d=>r b d,λj x hj hx=>by simp only[Kb]at hj;simp[Mu.drop,hj,hx],λj x hj d=>by simp only[Kb]at hj;subst hj;obtain⟨y,e,i⟩:=h.own.blk _ _ d;rw[F]at e;cases e;obtain⟨a,m,I,_⟩:=i;exact .inl ⟨_,_,_,I⟩⟩
 have z:∀v,μ k=some v->D w (held A (μ.drop k)) (μ.drop k) (.sl q n f c) v:=by
  intro v B;obtain⟨y,e,i⟩:=h.own.blk _ _ B;rw[F]at e;cases e;refine c7e r (λb d C=> ?_) i;rcases C with C|⟨j,x,hj,hx⟩
  .exact(h.own.rng _ _ b B d).2.1 C
  .unfold Mu.drop at hj;split at hj
   .cases hj
   .rename_i J;exact J (h.own.inj j k x v b hj B hx d)
 have o:∀{j x},μ.drop k j=some x->μ j=some x:=by
  intro j x hj;unfold Mu.drop at hj;split at hj
  .cases hj
  .exact hj
 refine⟨μ.drop k,⟨λj x hj=> ?_,λj K x L b hj M=>h.own.inj j K x L b (o hj) (o M),λj x b hj=>h.own.rng j x b (o hj),h.own.bnd⟩,h.fr,h.base,λg s l=>⟨(h.glo g s l).1,GW r (h.glo g s l).2 (h.glo g s l).1⟩,h.dfr,h.size,λt e G=> ?_,λj hj=> ?_,λj x hx=> ?_⟩
 .obtain⟨y,e,i⟩:=h.own.blk j x (o hj);exact⟨y.fz k (.sl q n f c),by simp[e],i.fz u z⟩
 .rw[VS (f:=λ(e:Entry)=>{e with sv:=e.sv.fz2 k (.sl q n f c)}) (λ_=>rfl),Jq]at G;obtain⟨N,O,rfl⟩:=G;have:=h.env t N O;unfold DE at this⊢;simp only;split at this
  .exact b8e u z this
  .exact⟨λl=>b8e u z (this.1 l),this.2⟩
 .have:=h.fresh j Er;simp[Mu.drop,this]
 .have:=h.anc j x hx;unfold Mu.drop;rw[Jj (λe=>H (by rw[<-e];exact Env.an_ak hx))];exact this
end
def f9p(E:Env)(own:List Blk)(ρ:Operand->Option SV)(i:Op):Option (Prop×SV×List Blk):=
 match i with
 |.call c=>match c.callee,c.args.toList with
  |.value f,x::a=>match ρ f,ρ x with
   |some (.clo b []),some (.osl k)=>match E.X b,own[k]? with
    |some e,some (.row T d n g j)=>(a.mapM ρ).bind λh=>if h.any SV.hasOsl then none else(h.mapM (SV.roA own)).bind λl=>(e T d n g l).map λr=>(r.1,if r.2.2 then .osl k else .tup [],own.set k (.row T d n r.2.1 j))
    |_,_=>none
   |_,_=>none
  |_,_=>none
 |_=>none
def Up(k j:Nat):Option Nat:=if j=k then none else some j
def d6c(E:Env)(own:List Blk)(ρ:Operand->Option SV)(h:Op):Option (Prop×SV×List Blk):=
 match h with
 |.call c=>match c.callee,c.args.toList with
  |.value f,x::a=>match ρ f,ρ x with
   |some (.clo b []),some (.osl k)=>match E.X b,own[k]? with
    |some e,some (.row T d n g j)=>(a.mapM ρ).bind λl=>((l.map (SV.ren1 (Up k))).mapM (SV.roA (own.map (Blk.ren (Up k))))).bind λm=>
     (e T d n g m).map λr=>(r.1/\∀i,i<n->(r.2.1 i).all SV.flat0=true,if r.2.2 then .osl k else .tup [],own.set k (.row T d n r.2.1 j))
    |_,_=>none
   |_,_=>none
  |_,_=>none
 |_=>none
def f6n(E:Env)(st:St)(o:Oper):Option (Prop×St):=match o.op with
 |.mapUpdate T m k x|.insert T m k x=>match CP E st.ρ none m with
  |some a=>match CP E st.ρ none k with
   |some sk=>match CP E st.ρ none x with
    |some b=>match o.dst with
     |none=>b5r E st T a sk b
     |some _=>none
    |none=>none
   |none=>none
  |none=>none
 |_=>none
def c6h(E:Env)(own:List Blk)(ρ:Operand->Option SV)(b:Op):Option (Prop×Nat×List Blk):=match b with
 |.slice T x none (some c) (some d)=>match ρ x,ρ c,ρ d with
  |some (.osl k),some (.int _ h),some (.int _ m)=>match own[k]? with
   |some (.row g a n f _)=>match PA E.P T with
    |some e=>if DC E.P e=some a/\E.ak k=false then some (0<=h/\h<=m/\m<=n,k,(own.map (Blk.kill [k])).set k (.row g a h.toNat f (some m.toNat)))else none
    |none=>none
   |_=>none
  |_,_,_=>none
 |_=>none
def d7b(E:Env)(ρ:Operand->Option SV)(b:Op):Option (Prop×Blk):=match b with
 |.call {callee:=.builtin .append,args:=⟨[x,y]⟩,argTypes:=⟨[T,U]⟩}=>match PA E.P T,E.P.underlying U with
  |some e,some (.int _)=>match ρ x,ρ y with
   |some (.sl _ n _ (some c)),some (.int .i64 m)=>match E.P.info? e,PT E.P e with
    |some a,some z=>if z.length=a.size/\0<a.size/\z.all SV.isCell=true/\z.all SV.pure=true then
     some ((n=0/\c=0)/\0<m/\m<=9223372036854775807/\m.toNat*a.bytes<=140737488355328,.row e a.size m.toNat (λ_=>z) none)else none
    |_,_=>none
   |_,_=>none
  |_,_=>none
 |_=>none
def d5t(E:Env)(nt:Nat)(ops:Array Oper)(st:St)(o:Oper):Option (Prop×St):=
 match o.guard with
 |some _=>f3h E nt ops st o
 |none=>match f9p E st.own (CP E st.ρ none) o.op with
  |some r=>if KM nt o.dst then some (r.1,⟨LG o.dst none r.2.1 st.ρ,r.2.2⟩)else none
  |none=>match d6c E st.own (CP E st.ρ none) o.op with
   |some r=>if KM nt o.dst then some (r.1,⟨LG o.dst none r.2.1 st.ρ,r.2.2⟩)else none
   |none=>match b9m E st.own (CP E st.ρ none) o.op with
    |some r=>if KM nt o.dst then some (r.1,⟨LG o.dst none r.2.1 (VL r.2.2.2 st.ρ),r.2.2.1⟩)else none
    |none=>match f6n E st o with
     |some r=>some r
     |none=>match c6h E st.own (CP E st.ρ none) o.op with
      |some r=>if KM nt o.dst then some (r.1,⟨LG o.dst none (.osl r.2.1) (VL [r.2.1] st.ρ),r.2.2⟩)else none
      |none=>match d7b E (CP E st.ρ none) o.op with
       |some r=>if KM nt o.dst then some (r.1,⟨LG o.dst none (.osl st.own.length) st.ρ,st.own++[r.2]⟩)else none
       |none=>f3h E nt ops st o
def f7j:SV->List Nat
 |.osl k=>[k]
 |.agg a=>a.filterMap λs=>match s with|.osl k=>some k|_=>none
 |_=>[]
def YA(E:Env)(o:Oper)(st:St):List Operand->St
 | []=>st
 |.tmp t::r=>YA E o (match CO t st.ρ with
  |some e=>(f7j e.sv).foldl (λst k=>st.fz E k) st
  |none=>st) r
 |_::r=>YA E o st r
def f2x(E:Env)(nt:Nat)(ops:Array Oper)(st:St)(o:Oper):Option (Prop×St):=
 match o.dst with
 |none=>d5t E nt ops st o
 |some d=>match E.fz d with
  |true=>d5t E nt ops (YA E o st o.op.operands.toList) o
  |false=>d5t E nt ops st o
section
variable{E:Env}{B0:Nat}{X A:Nat->Prop}{w0:World}{nt:Nat}{st:St}{a:Act}{w:World}{μ:Mu}
theorem d4f(ks:List Nat):∀{st:St} {μ:Mu},SD E B0 X A w0 nt st a w μ->∃μ',SD E B0 X A w0 nt (ks.foldl (λst k=>st.fz E k) st) a w μ':=by
 induction ks with
 |nil=>intro st μ h;exact⟨μ,h⟩
 |cons k ks b=>intro st μ h;obtain⟨μ',c⟩:=d0j h k;exact b c
theorem c4v(o:Oper):∀(l:List Operand) {st:St} {μ:Mu},SD E B0 X A w0 nt st a w μ->∃μ',SD E B0 X A w0 nt (YA E o st l) a w μ':=by
 intro l;induction l with
 |nil=>intro st μ h;exact⟨μ,h⟩
 |cons x l b=>
  intro st μ h;cases x with
  |tmp t=>
   simp only[YA];split
   .obtain⟨μ',c⟩:=d4f (f7j _) h;exact b c
   .exact b h
  |const _=>exact b h
  |global _=>exact b h
  |func _=>exact b h
end
theorem DX.row_mono{w:World}{H H':Nat->Prop}{μ μ':Mu}{x:Value}{T:TypeId}{sz n:Nat}{f:Nat->List SV}{c:Option Nat}(g:∀b,H' b->H b)(h:DX w H μ x (.row T sz n f c)):DX w H' μ' x (.row T sz n f c):=by
 obtain⟨a,m,rfl,k,l,p,d,h⟩:=h;refine⟨a,m,rfl,k,l,p,d,?_⟩;rcases h with h|⟨b,o,q,r,rfl,t,u,y,z⟩
 .exact .inl h
 .exact .inr ⟨b,o,q,r,rfl,t,u,y,λi j s v e hs A=>GW g (z i j s v e hs A) (Jr.1 (d i e).2 s (Jn hs))⟩
theorem f48{B0:Nat}{X A:Nat->Prop}{w:World}{μ:Mu}{own:List Blk}{xs a:List SV}{vs:List Value}(f:Own B0 X A w μ own)(c:DL w (held A μ) μ xs vs)(g:xs.mapM (SV.roA own)=some a)(j:xs.any SV.hasOsl=false){H':Nat->Prop}(k:∀b,H' b->held A μ b):DL w H' BT a vs:=by obtain⟨l1,l⟩:=PX g;refine⟨by rw[c.1,l1],λi s v hs m=> ?_⟩;have b6:i<xs.length:=Gn;obtain⟨y,d,e⟩:=l i _ (Jh b6);rw[hs]at d;cases d;refine b1g f (λ_ _ h=>h) k (c.2 i _ v (Jh b6) m) e (λh=> ?_);have:xs.any SV.hasOsl=true:=I8;rw[j]at this;cases this
section
variable{E:Env}{B0:Nat}{X A:Nat->Prop}{w0:World}{nt:Nat}{st:St}{a:Act}{w:World}{μ:Mu}
theorem d7p(hC:HF E)(h:SD E B0 X A w0 nt st a w μ){o:Oper}{G:Prop}{s:SV}{own':List Blk}(m:f9p E st.own (CP E st.ρ none) o.op=some (G,s,own'))(hp:G):
 ∃f B,(execOp a.eval o).run E.P w=.ok (.enter f B) w/\own'.length=st.own.length/\Calls E.P f B w λe K=>∃v,e=.returned v/\D K (held A μ) μ s v/\After B0 X A w K μ μ own':=by
 unfold f9p at m;split at m;rotate_left
 .cases m
 rename_i c da;split at m;rotate_left
 .cases m
 rename_i f x C hf jq;split at m;rotate_left
 .cases m
 rename_i H k I J;split at m;rotate_left
 .cases m
 rename_i e T sz n g cp hX hk;simp only[Js]at m;obtain⟨xs,jm,m⟩:=m;split at m
 .cases m
 rename_i jc;simp only[Js,It]at m;obtain⟨ys,t7,⟨p,g',r⟩,hr,rfl,rfl,rfl⟩:=m;have F:=h.opds (g:=none) (λq b e=>E8);obtain⟨⟨fn,L,h2,h3⟩,hS⟩:=hC.2.1 H e hX;have V:=F _ _ I;generalize wa:a.eval f=vf at V;have O:=F _ _ J;generalize P1:a.eval x=v at O;cases V with
 |clo Q dt s9=>
 have tj:Q=[]:=M1.1 dt;subst tj;have l:μ k=some v:=by cases O with|osl h=>exact h
 have Zt:=Ur (a:=a) F jm;obtain⟨W,M,ba⟩:=h.own.blk k v l;rw[hk]at M;cases M;let Y:Nat->Prop:=λb=>held A μ b/\¬CS v b
 have N:∀b,held Y (HA v) b↔held A μ b:=by
  intro b;constructor
  .rintro(d|⟨j,y,u,hy⟩)
   .exact d.1
   .unfold HA at u;split at u
    .cases u;exact .inr ⟨k,v,l,hy⟩
    .cases u
  .intro d;by_cases e:CS v b
   .exact .inr ⟨0,v,rfl,e⟩
   .exact .inl ⟨d,e⟩
 have wq:∀b,held A μ b->b<w.heap.size:=λb d=>by
  rcases d with d|⟨k,x,hk,hx⟩
  .exact h.own.bnd b d
  .exact(h.own.rng k x b hk hx).1
 refine⟨H,(v::C.map a.eval).toArray,?_,E2,?_⟩
 .have hm:c.args.map a.eval=(v::C.map a.eval).toArray:=by
   apply Array.ext';rw[Nu,jq];simp[P1]
  simp only[execOp,da,resolve,hf,wa,Deferred.ofValue,hm,Iw,invoke,callFunc,run_program,L,h2,J5,h3];simp
 .refine(hS Y w v T sz n g cp ys _ p g' r (λb d=>wq b d.1) (λb d=>⟨(h.own.rng k v b l d).1,λR=>R.2 d⟩) (λq t S=>⟨(h.glo q t S).1,GW (λb d=>(N b).1 d) (h.glo q t S).2 (h.glo q t S).1⟩) (ba.row_mono (λb d=>(N b).1 d))
   (f48 h.own Zt t7 (by simpa using jc) (λb d=>(N b).1 d)) hr hp).mono ?_
  rintro e K ⟨U,rfl,r1,r2,hB,z⟩;have Z:Keeps w K (held A μ) (held A μ) μ μ:=⟨z.size,λb d R=>z.block b d (λe=>R (.inr ⟨k,v,l,e⟩)),λ_ _ h=>h,λ_ _ h=>h⟩
  refine⟨U,rfl,?_,⟨λj y u=> ?_,h.own.inj,λj y b u d=> ?_,λb d=>Kf (h.own.bnd b d) z.size⟩,⟨z.os,z.tape,z.output,z.drawn,z.size,λi hi hx=> ?_⟩,Z⟩
  .cases r with
   |true=>rw[r1 rfl];rw[Ji rfl];cases O with|osl h=>exact .osl h
   |false=>rw[r2 rfl];exact .tup [] rfl (λi s v h=>Ec)
  .by_cases e:j=k
   .subst e;rw[l]at u;cases u;exact⟨_,Ia,hB.row_mono (λb d=>(N b).2 d)⟩
   .obtain⟨W,M,d⟩:=h.own.blk j y u;refine⟨W,by rw[Jz (Ne.symm e)];exact M,d.keep Z (λb d=>z.block b (h.own.rng j y b u d).1 (λe2=>e (h.own.inj j k y v b u l d e2)))⟩
  .obtain⟨q1,q2⟩:=h.own.rng j y b u d;exact⟨Kf q1 z.size,q2⟩
  .refine z.block i (Kf hi h.base) (λe=> ?_);rcases(h.own.rng k v i l e).2.2 with L|L
   .omega
   .exact hx L
theorem DX.row_flat{w:World}{H H':Nat->Prop}{μ μ':Mu}{x:Value}{T:TypeId}{sz n:Nat}{f:Nat->List SV}{c:Option Nat}(e:∀i,i<n->(f i).all SV.flat0=true)(h:DX w H μ x (.row T sz n f c)):DX w H' μ' x (.row T sz n f c):=by
 obtain⟨a,m,rfl,g,k,l,p,h⟩:=h;refine⟨a,m,rfl,g,k,l,p,?_⟩;rcases h with h|⟨b,o,q,r,rfl,t,u,y,z⟩
 .exact .inl h
 .exact .inr ⟨b,o,q,r,rfl,t,u,y,λi j s v d hs A=>YH (Jr.1 (e i d) s (Jn hs)) (z i j s v d hs A)⟩
theorem d22(hC:HF E)(h:SD E B0 X A w0 nt st a w μ){o:Oper}{N:Prop}{s:SV}{own':List Blk}(C:d6c E st.own (CP E st.ρ none) o.op=some (N,s,own'))(hp:N):
 ∃f I,(execOp a.eval o).run E.P w=.ok (.enter f I) w/\own'.length=st.own.length/\Calls E.P f I w λe U=>∃v,e=.returned v/\D U (held A μ) μ s v/\After B0 X A w U μ μ own':=by
 unfold d6c at C;split at C;rotate_left
 .cases C
 rename_i c da;split at C;rotate_left
 .cases C
 rename_i f x F hf jq;split at C;rotate_left
 .cases C
 rename_i O k Q R;split at C;rotate_left
 .cases C
 rename_i e T sz n g cp hX hk;simp only[Js,It]at C;obtain⟨xs,jm,ys,t7,⟨p,g',r⟩,hr,rfl,rfl,rfl⟩:=C;obtain⟨hp,J⟩:=hp;have K:=h.opds (g:=none) (λq b e=>E8);obtain⟨⟨fn,V,h2,h3⟩,hS⟩:=hC.2.1 O e hX;have gp:=K _ _ Q;generalize wa:a.eval f=vf at gp;have pq:=K _ _ R;generalize P1:a.eval x=v at pq;cases gp with
 |clo cvs dt s9=>
 have tj:cvs=[]:=M1.1 dt;subst tj;have l:μ k=some v:=by cases pq with|osl h=>exact h
 have Zt:=Ur (a:=a) K jm;obtain⟨W,Y,ba⟩:=h.own.blk k v l;rw[hk]at Y;cases Y;let Z:Nat->Prop:=λb=>A b\/CS v b
 let B:Mu:=μ.drop k
 have z:∀{j x},B j=some x->j≠k/\μ j=some x:=by
  intro j x m;simp only[B,Mu.drop]at m;split at m
  .cases m
  .rename_i b9;exact⟨b9,m⟩
 have Zv:∀j i x,Up k j=some i->μ j=some x->B i=some x:=by
  intro j i x m hx;unfold Up at m;split at m
  .cases m
  .rename_i b9;cases m;simp[B,Mu.drop,b9,hx]
 have L:∀b,held Z B b↔held A μ b:=by
  intro b;constructor
  .rintro((d|d)|⟨j,y,m,H⟩)
   .exact .inl d
   .exact .inr ⟨k,v,l,d⟩
   .exact .inr ⟨j,y,(z m).2,H⟩
  .rintro(d|⟨j,y,m,H⟩)
   .exact .inl (.inl d)
   .by_cases e:j=k
    .subst e;rw[l]at m;cases m;exact .inl (.inr H)
    .exact .inr ⟨j,y,by simp[B,Mu.drop,e,m],H⟩
 have pj:Own B0 X Z w B (st.own.map (Blk.ren (Up k))):=by
  refine⟨λj y m=> ?_,λj j' y y' b m bi=>h.own.inj j j' y y' b (z m).2 (z bi).2,λj y b m d=> ?_,λb d=> ?_⟩
  .obtain⟨W,M,d⟩:=h.own.blk j y (z m).2;exact⟨W.ren (Up k),by simp[M],d.ren (λb d=>(L b).1 d) Zv⟩
  .obtain⟨r1,r2,r3⟩:=h.own.rng j y b (z m).2 d;refine⟨r1,?_,r3⟩;rintro(hA|hv)
   .exact r2 hA
   .exact(z m).1 (h.own.inj j k y v b (z m).2 l d hv)
  .rcases d with d|d
   .exact h.own.bnd b d
   .exact(h.own.rng k v b l d).1
 have S:∀b,held A (HA v) b↔Z b:=by
  intro b;constructor
  .rintro(d|⟨j,y,m,H⟩)
   .exact .inl d
   .unfold HA at m;split at m
    .cases m;exact .inr H
    .cases m
  .rintro(d|d)
   .exact .inl d
   .exact .inr ⟨0,v,rfl,d⟩
 have bj:∀b,held A (HA v) b->held A μ b:=λb d=>by
  rcases(S b).1 d with d|d
  .exact .inl d
  .exact .inr ⟨k,v,l,d⟩
 have hDy:DL w (held A (HA v)) BT ys (F.map a.eval):=by
  obtain⟨l1,l2⟩:=PX t7;refine⟨by rw[Zt.1,l1];simp,λi s u hs hu=> ?_⟩;have b6:i<(xs.map (SV.ren1 (Up k))).length:=Gn;obtain⟨y,H,M⟩:=l2 i _ (Jh b6);rw[hs]at H;cases H;have g9:i<xs.length:=by simpa using b6
  have kr:=b1m (w:=w) (H':=held Z B) (μ':=B) (λb d=>(L b).1 d) Zv (Zt.2 i _ u (Jh g9) hu);simp only[Mq]at M;exact b1g pj (λ_ _ h=>h) (λb d=>(L b).2 (bj b d)) kr M (λ_ b d=>(S b).1 d)
 have wq:∀b,held A μ b->b<w.heap.size:=λb d=>by
  rcases d with d|⟨k,x,hk,hx⟩
  .exact h.own.bnd b d
  .exact(h.own.rng k x b hk hx).1
 refine⟨O,(v::F.map a.eval).toArray,?_,E2,?_⟩
 .have hm:c.args.map a.eval=(v::F.map a.eval).toArray:=by
   apply Array.ext';rw[Nu,jq];simp[P1]
  simp only[execOp,da,resolve,hf,wa,Deferred.ofValue,hm,Iw,invoke,callFunc,run_program,V,h2,J5,h3];simp
 .refine(hS A w v T sz n g cp ys _ p g' r h.own.bnd (λb d=>⟨(h.own.rng k v b l d).1,(h.own.rng k v b l d).2.1⟩) (λq t hg=>⟨(h.glo q t hg).1,GW bj (h.glo q t hg).2 (h.glo q t hg).1⟩) (ba.row_mono bj) hDy hr hp).mono ?_;rintro e U ⟨res,rfl,r1,r2,hB,G⟩;have c8:Keeps w U (held A μ) (held A μ) μ μ:=⟨G.size,λb d hh=>G.block b d (λe=>hh (.inr ⟨k,v,l,e⟩)),λ_ _ h=>h,λ_ _ h=>h⟩
  refine⟨res,rfl,?_,⟨λj y m=> ?_,h.own.inj,λj y b m d=> ?_,λb d=>Kf (h.own.bnd b d) G.size⟩,⟨G.os,G.tape,G.output,G.drawn,G.size,λi hi hx=> ?_⟩,c8⟩
  .cases r with
   |true=>rw[r1 rfl];rw[Ji rfl];cases pq with|osl h=>exact .osl h
   |false=>rw[r2 rfl];exact .tup [] rfl (λi s v h=>Ec)
  .by_cases e:j=k
   .subst e;rw[l]at m;cases m;exact⟨_,Ia,hB.row_flat J⟩
   .obtain⟨W,Y,d⟩:=h.own.blk j y m;refine⟨W,by rw[Jz (Ne.symm e)];exact Y,d.keep c8 (λb d=>G.block b (h.own.rng j y b m d).1 (λM=>e (h.own.inj j k y v b m l d M)))⟩
  .obtain⟨q1,q2⟩:=h.own.rng j y b m d;exact⟨Kf q1 G.size,q2⟩
  .refine G.block i (Kf hi h.base) (λe=> ?_);rcases(h.own.rng k v i l e).2.2 with V|V
   .omega
   .exact hx V
theorem b3m{P:Program}{w:World}{T U ty e:TypeId}{k:IntKind}{b:TypeInfo}{c:Value}(f:P.underlying T=some (.slice e))(g:P.underlying U=some (.int k))(hi:P.info? e=some b)(i:b.zero=some c){a:Option Addr}{m:Nat}(j:0<m)(rf:m<=9223372036854775807)(l:m*b.bytes<=140737488355328)(n:0<b.size):
 (Builtin.append_ #[T,U] ty #[.slice a 0 0,.int .i64 m]).run P w=.ok (.slice (some ⟨w.heap.size,0,none⟩) m (grownCap w m 0 e)) (w.drew.alloc (.cells (Builtin.zeroCells c.cells m++Builtin.zeroCells c.cells (grownCap w m 0 e-m)) e)):=by
 have o:IntKind.i64.wrap (m:Int)=m:=RO F0;have q:m≠0:=Dz;have r:¬((m:Int)<0):=Dz;have s:¬(281474976710656<(m:Int)*(b.bytes:Int)):=by have:((m*b.bytes:Nat):Int)=(m:Int)*b.bytes:=E2;omega
 have t:¬(9223372036854775807<(m:Int)):=Dz;have h48:=growslice_fits (need:=m) (old:=0) Dz l;have u:¬(281474976710656<Builtin.nextslicecap m 0*b.bytes):=Dz;have d:b.size≠0:=Dz;have v:(Builtin.firstCells b.size 0 (.slice a 0 0)).run P w.drew=.ok #[] w.drew:=by cases a<;>simp[Builtin.firstCells,loadCells,loadCellsFrom]
 simp[Builtin.append_,Kn f,Kn g,sizeOf,typeInfo,zeroValue,hi,i,asInt,asIntOf,o,r,s,t,u,q,Question.forced,v,newRow,grownCap];intro h;have:=Nat.mul_pos j n;omega
theorem b7t(z:Array Value)(n i:Nat)(u:Value)(h:(Builtin.zeroCells z n).toList[i]?=some u):z.toList[i%z.size]?=some u:=by
 unfold Builtin.zeroCells at h;rw[Nu,K9,Jq]at h;obtain⟨j,b,rfl⟩:=h;rw[Array.toList_range]at b;obtain⟨a,e⟩:=Jk.1 b;simp only[List.length_range]at a;simp only[List.getElem_range]at e;subst e;have d:0<z.size:=by
  rcases Kt z.size with e|e
  .rw[e]at a;simp at a
  .exact e
 have c:=Nq i d;rw[Lk,L6 z (i%z.size) c,Mm c]
theorem d2q{B0:Nat}{X A:Nat->Prop}{w:World}{μ:Mu}{own k:List Blk}{a:Act}{ρ:Operand->Option SV}(Z:Own B0 X A w μ k)(N:B0<=w.heap.size)(hk:μ own.length=none)(B:∀(x:Operand) (s:SV),ρ x=some s->D w (held A μ) μ s (a.eval x)){o:Oper}{C:Prop}{b:Blk}
 (d:d7b E ρ o.op=some (C,b)) (hp:C) (df:k[own.length]?=some b):
 ∃r I μ',(execOp a.eval o).run E.P w=.ok (.value r) I/\After B0 X A w I μ μ' k/\(∀j,j≠own.length->μ' j=μ j)/\D I (held A μ') μ' (.osl own.length) r:=by
 unfold d7b at d;split at d;rotate_left
 .cases d
 rename_i x y T U da;split at d;rotate_left
 .cases d
 rename_i e ki hT hU;split at d;rotate_left
 .cases d
 rename_i sz n f c m hx hy;split at d;rotate_left
 .cases d
 rename_i t z O hz;split at d;rotate_left
 .cases d
 rename_i u;obtain⟨rz,dz,t9,J⟩:=u;simp only[Iv]at d;obtain⟨rfl,rfl⟩:=d;obtain⟨⟨rfl,rfl⟩,hm0,R0,vp⟩:=hp;have ht:=RA hT;obtain⟨inf',l,F,pg,rfl,Q⟩:=TF (w:=w) (H:=held A μ) (μ:=μ) hz;rw[O]at F;cases F;have G:l.cells.size=t.size:=Fh;have R:∀v∈l.cells.toList,v.oneCell'=true:=TJ Q t9;have S:=B _ _ hx;have V:=B _ _ hy;generalize P1:a.eval x=vx at S;generalize K:a.eval y=vy at V;cases V;obtain⟨L,rfl⟩:∃L,vx=.slice L 0 0:=by
  cases S with
  |sl a b o m g hm hx u b7 hl hd=>
   rcases u with u|u
   .cases u
   .cases u;exact⟨_,rfl⟩
 have M:((m.toNat:Nat):Int)=m:=Dz;have W:=b3m (P:=E.P) (w:=w) (T:=T) (U:=U) (ty:=o.type) (a:=L) (m:=m.toNat) ht hU O pg Dz Dz vp dz;rw[M]at W;have gv:=grownCap_ge w m.toNat 0 e;have gw:=O1 w m.toNat 0 e Ew;have qq:∀v∈(Builtin.zeroCells l.cells m.toNat++Builtin.zeroCells l.cells (grownCap w m.toNat 0 e-m.toNat)).toList,v.oneCell'=true:=λv q=>by
  rw[Nz,K6]at q;rcases q with q|q
  .exact WV R _ v q
  .exact WV R _ v q
 have Y:(Builtin.zeroCells l.cells m.toNat).toList.length=m.toNat*t.size:=by simp[O7,G]
 obtain⟨o1,o2⟩:=Uk (x:=.slice (some ⟨w.heap.size,0,none⟩) m.toNat (grownCap w m.toNat 0 e)) Z.drew N hk df (.cells (Builtin.zeroCells l.cells m.toNat++Builtin.zeroCells l.cells (grownCap w m.toNat 0 e-m.toNat)) e) (λb hb=>(XD Dz).1 hb) (λμ' _ c8=>by
  refine⟨_,_,rfl,gv,gw,.inl rfl,λi _=>⟨by simpa using G,J⟩,.inr ⟨w.heap.size,0,(Builtin.zeroCells l.cells m.toNat++Builtin.zeroCells l.cells (grownCap w m.toNat 0 e-m.toNat)).toList,Dz,rfl,Mt w.drew _,?_,qq,λi j s v F hs q=> ?_⟩⟩
  .rw[Nz,K8,Y,Ls,O7,G,<-Ma,L9,show m.toNat+(grownCap w m.toNat 0 e-m.toNat)=grownCap w m.toNat 0 e from Dz];exact C2
  .have hj:j<t.size:=by
    have:=(Jk.1 hs).1;rw[rz]at this;exact this
   have b6:=LO F hj;rw[Nz,L9,Jt (by rw[Y];exact b6)]at q;have:=b7t _ _ _ _ q;rw[G,O6,Nat.mul_add_mod,Nat.mod_eq_of_lt hj]at this;exact((Q.2 j s v hs this).keep Keeps.drew).keep c8)
 have bt:(execOp a.eval o).run E.P w=.ok (.value (.slice (some ⟨w.heap.size,0,none⟩) m.toNat (grownCap w m.toNat 0 e))) (w.drew.alloc (.cells (Builtin.zeroCells l.cells m.toNat++Builtin.zeroCells l.cells (grownCap w m.toNat 0 e-m.toNat)) e)):=by simp only[execOp,da,resolve,Iw,invoke,builtin];rw[show (⟨[x,y]⟩:Array Operand).map a.eval= #[a.eval x,a.eval y]from E2,P1,K,W];simp
 exact⟨_,_,_,bt,⟨o1,Fr.drew.trans (Fr.alloc _ N),o2.size,o2.block,o2.less,o2.own⟩,λj hj=>Ep,.osl Eh⟩
theorem d1y{B0:Nat}{X A:Nat->Prop}{w:World}{μ:Mu}{own:List Blk}{a:Act}{ρ:Operand->Option SV}(L:Own B0 X A w μ own)(hB:B0<=w.heap.size)(t:∀(x:Operand) (s:SV),ρ x=some s->D w (held A μ) μ s (a.eval x)){o:Oper}{y:Prop}{k:Nat}{own':List Blk}
 (d:c6h E own ρ o.op=some (y,k,own')) (hp:y):
 ∃r μ',(execOp a.eval o).run E.P w=.ok (.value r) w/\D w (held A μ') μ' (.osl k) r/\After' [k] B0 X A w w μ μ' own'/\own'.length=own.length/\(E.ak k=false/\k<own.length)/\∀j,j≠k->μ' j=μ j:=by
 unfold c6h at d;split at d;rotate_left
 .cases d
 rename_i T x G mx da;split at d;rotate_left
 .cases d
 rename_i k' H h I m hx C hm;split at d;rotate_left
 .cases d
 rename_i e' sz n f c M;split at d;rotate_left
 .cases d
 rename_i e hT;split at d;rotate_left
 .cases d
 rename_i hc;obtain⟨N,s4⟩:=hc;simp only[Iv]at d;obtain⟨rfl,rfl,rfl⟩:=d;obtain⟨h0,h1,h2⟩:=hp;have O:=RA hT;have n8:E.P.elem T=e:=by simp[Program.elem,O]
 simp only[DC,Jq]at N;obtain⟨u,bu,rfl⟩:=N;have Q:=t _ _ hx;have z:=t _ _ C;have B:=t _ _ hm;generalize P1:a.eval x=v at Q;generalize J:a.eval G=vh at z;generalize nv:a.eval mx=vm at B;cases z;cases B;cases Q with
 |osl R=>
  obtain⟨bl,F,ba⟩:=L.blk _ _ R;rw[M]at F;cases F;obtain⟨l,g,K,fx,j9,gq,S,U⟩:=ba;cases K;rename_i g l;have F:=M2 (P:=E.P) w I m g .slice3Acap Dz Dz;have K:=M2 (P:=E.P) w H h m.toNat .slice3B Dz Dz;have ke:(Instr.sliceBounds true n g none (some (.int H h)) (some (.int I m))).run E.P w=.ok (0,h.toNat,m.toNat) w:=by simp[Instr.sliceBounds,F,K]
  refine⟨.slice l h.toNat m.toNat,μ.set k' (.slice l h.toNat m.toNat),?_,.osl Eh,b1a L hB R ⟨_,_,_,rfl⟩ ⟨_,_,_,rfl⟩ ?_ (Jp _) (λ_ _ _=>rfl) rfl rfl rfl (λc8=> ?_),E2,⟨s4,(Jk.1 M).1⟩,λj hj=>Ep⟩
  .have hr:(Instr.sliceAt T (.slice l n g) none (some (.int H h)) (some (.int I m))).run E.P w=.ok (.slice l h.toNat m.toNat) w:=by
    have V3:l.map (·.add (0*u.size))=l:=by cases l<;>simp[Addr.add_zero']
    simp only[Instr.sliceAt,Iw,Kn O,Instr.slice,ke,IP bu,V3,ite_self,Nat.sub_zero]
   simp[execOp,da,P1,J,nv,hr]
  .rcases U with h3|⟨b,o,V,W,rfl,C,ho,Y,Z⟩
   .left;rw[show m.toNat=0 from Dz];exact WD
   .by_cases q:m.toNat=0
    .left;rw[q];exact WD
    .right;left;exact(Ok Dz).trans (Ok W).symm
  .refine⟨l,m.toNat,rfl,Dz,Dz,.inr rfl,λi G=>S i Dz,?_⟩;rcases U with h3|⟨b,o,V,W,rfl,C,ho,Y,Z⟩
   .left;omega
   .by_cases q:m.toNat=0
    .left;exact q
    .right;have:m.toNat*u.size<=g*u.size:=Kr _ Dz;exact⟨b,o,V,Dz,rfl,C,Dz,Y,λi j s v G hs hv=>LA c8 (Z i j s v Dz hs hv) (Jr.1 (S i Dz).2 s (Jn hs))⟩
theorem b20(M:EnvOK E)(I:HF E)(h:SD E B0 X A w0 nt st a w μ){ops:Array Oper}{o:Oper}{t:Prop}{z:St}(c:d5t E nt ops st o=some (t,z))(B:t)
 {K:Act->World->Prop} {Q:Exit->Act->World->Prop} (C:∀S n μ',SD E B0 X A w0 nt z S n μ'->K S n):
 if Region.wanted o (yielded ops a.tmps)then o.wp E.P a w K Q else K (a.put o.dst undef) w:=by
 unfold d5t at c;split at c
 .exact b91 M I h c B C
 rename_i mz;have J:∀{p:Prop} {s:SV} {own':List Blk},p=t->KM nt o.dst=true->(⟨LG o.dst none s st.ρ,own'⟩:St)=z->(∃f u,(execOp a.eval o).run E.P w=.ok (.enter f u) w/\own'.length=st.own.length/\Calls E.P f u w λe n=>∃v,e=.returned v/\D n (held A μ) μ s v/\After B0 X A w n μ μ own')->o.wp E.P a w K Q:=by rintro p s own' rfl y rfl ⟨f,u,F,N,V⟩;unfold Oper.wp;rw[F];refine V.mono ?_;rintro e n ⟨v,rfl,L,i⟩;exact C _ n μ (h.put i.own i.fr (NW i.keeps h.glo) (h.env.keep i.keeps) (λk O=>h.fresh k (by rw[<-N];exact O)) h.anc y L)
 split at c
 .rename_i r d;obtain⟨p,s,own'⟩:=r;split at c;rotate_left
  .cases c
  rename_i y;simp only[Iv]at c;rw[Ji Ez];exact J c.1 y c.2 (d7p I h d (by rw[show p=t from c.1];exact B))
 .split at c
  .rename_i r d;obtain⟨p,s,own'⟩:=r;split at c;rotate_left
   .cases c
   rename_i y;simp only[Iv]at c;rw[Ji Ez];exact J c.1 y c.2 (d22 I h d (by rw[show p=t from c.1];exact B))
  .split at c
   .rename_i r d;obtain⟨p,s,own',kills⟩:=r;split at c;rotate_left
    .cases c
    rename_i y;simp only[Iv]at c;obtain⟨rfl,rfl⟩:=c;rw[Ji Ez];exact d2p I h (by rw[<-b96];exact d) B y C
   .split at c
    .rename_i r d;cases c;rw[Ji Ez];have l:=h.opds (g:=none) (λq b e=>E8);unfold f6n at d;split at d;rotate_left 2
     .cases d
     all_goals
      rename_i T m k x W;split at d;rotate_left
      .cases d
      rename_i sm Y;split at d;rotate_left
      .cases d
      rename_i sk Z;split at d;rotate_left
      .cases d
      rename_i sx rk;split at d;rotate_left
      .cases d
      rename_i mt;obtain⟨n,μ',G,R⟩:=b7p M h (l _ _ Y) (l _ _ Z) (l _ _ rk) d;have F:(execOp a.eval o).run E.P w=.ok .skip n:=by simp[execOp,W,G]
      unfold Oper.wp;rw[F];show K (a.put o.dst undef) n;rw[mt];exact C _ n μ' R
    .split at c
     .rename_i r d;obtain⟨p,k,own'⟩:=r;split at c;rotate_left
      .cases c
      rename_i y;simp only[Iv]at c;obtain⟨rfl,rfl⟩:=c;rw[Ji Ez];have l:=h.opds (g:=none) (λq b e=>E8);obtain⟨r,μ',F,L,i,N,U,H⟩:=d1y h.own h.base l d B;unfold Oper.wp;rw[F];show K (a.put o.dst r) w;refine C _ w μ' ?_;refine h.put i.own i.fr (b1s i.keeps h.glo) (h.env.change i.keeps) (λj hj=> ?_) (λj x hx=>i.keeps.own _ _ (λe=> ?_) (h.anc j x hx)) y L
      .rw[N]at hj;rw[H j Dz];exact C9
      .simp only[Kb]at e;subst e;rw[Env.an_ak hx]at U;cases U.1
     .split at c
      .rename_i r d;obtain⟨p,b⟩:=r;split at c;rotate_left
       .cases c
       rename_i y;simp only[Iv]at c;obtain⟨rfl,rfl⟩:=c;rw[Ji Ez];have l:=h.opds (g:=none) (λq b e=>E8);obtain⟨r,n,μ',F,i,H,L⟩:=d2q (h.own.more (own':=st.own++[b]) XL) h.base (h.fresh _ (Jp _)) l d B E2;unfold Oper.wp;rw[F];show K (a.put o.dst r) n;refine C _ n μ' ?_;refine h.put i.own i.fr (NW i.keeps h.glo) (h.env.keep i.keeps) (λk O=> ?_) (λj x hx=>i.keeps.own _ _ (h.anc j x hx)) y L;simp only[J4]at O;rw[H k Dz];exact h.fresh k Dz
      .exact b91 M I h c B C
theorem b0z(e:EnvOK E)(f:HF E)(h:SD E B0 X A w0 nt st a w μ){ops:Array Oper}{o:Oper}{c:Prop}{d:St}(b:f2x E nt ops st o=some (c,d))(g:c)
 {K:Act->World->Prop} {Q:Exit->Act->World->Prop} (i:∀j k μ',SD E B0 X A w0 nt d j k μ'->K j k):
 if Region.wanted o (yielded ops a.tmps)then o.wp E.P a w K Q else K (a.put o.dst undef) w:=by
 unfold f2x at b;split at b
 .exact b20 e f h b g i
 .split at b
  .obtain⟨μ',l⟩:=c4v o o.op.operands.toList h;exact b20 e f l b g i
  .exact b20 e f h b g i
end
theorem WK{b:List (List Value)}{i a j:Nat}{us:List Value}{u:Value}(h:(b.set i [])[a]?=some us)(c:us[j]?=some u):a≠i/\b[a]?=some us:=by
 by_cases e:i=a
 .subst e;by_cases hl:i<b.length
  .rw[Kv hl]at h;cases h;simp at c
  .rw[Ly Ef]at h;cases h
 .rw[Jz e]at h;exact⟨Ne.symm e,h⟩
structure SlH where
 a:Option Addr
 n:Nat
 m:Nat
def SlH.val(s:SlH):Value:=.slice s.a s.n s.m
def RB(p:SlH->Prop):Prop:=∀v,p v
theorem RB.mk{p:SlH->Prop}(h:∀v,p v):RB p:=h
theorem RB.out{p:SlH->Prop}(h:RB p):∀v,p v:=h
attribute [irreducible] RB
theorem Tv{ps:List Value}{e:List (List Value)}{b:Nat}:CS (BQ ps e) b↔∃(i j:Nat) (us:List Value) (u:Value),e[i]?=some us/\us[j]?=some u/\FO u=some b:=by
 rw[Oc];constructor
 .rintro⟨us,u,a,c,d⟩;obtain⟨i,f⟩:=Lg.1 a;obtain⟨j,g⟩:=Lg.1 c;exact⟨i,j,us,u,f,g,d⟩
 .rintro⟨i,j,us,u,a,c,d⟩;exact⟨us,u,Jn a,Jn c,d⟩
def witP(p a:Nat)(ρ:List Entry):Bool:=match CO a ρ with
 |some ⟨_,none,.fp true q _ _⟩=>decide (q=p)
 |_=>false
def d5d(T:TypeId)(sz t:Nat)(st:St):Option St:=match CO t st.ρ with
 |some ⟨_,none,.own _ a⟩=>some ⟨⟨t,none,.fp true st.own.length 0 a⟩::st.ρ,st.own++[.pool T sz 0 (λ_=>undef) (λ_=>false) (λ_=>0) (λ_ _=>[])]⟩
 |_=>none
def SV.cv0(r:Nat)(v:Value)(s:SV):SV:=match s with
 |.osl j=>if j=r then .con v else .osl j
 |s=>s.uf0 r 0
def SV.cv1(r:Nat)(v:Value):SV->SV
 |.agg a=>.agg (a.map (SV.cv0 r v))
 |s=>s.cv0 r v
def SV.cv2(r:Nat)(v:Value):SV->SV
 |.tup a=>.tup (a.map (SV.cv1 r v))
 |s=>s.cv1 r v
def Blk.cv(r:Nat)(v:Value):Blk->Blk
 |.cells T a=>.cells T (a.map (SV.cv0 r v))
 |.rowh T d n f c i u=>.rowh T d n f c i (u.map (SV.cv0 r v))
 |b=>b.uf r 0
def b4q(E:Env)(t p c:Nat)(st:St):Option (Value->St):=match CO t st.ρ with
 |some ⟨_,none,.osl r⟩=>match st.own[r]?,st.own[p]? with
  |some (.row T b m g _),some (.pool d a k f h i j)=>if T=d/\b=a/\r≠p/\E.ak r=false/\E.ak p=false/\witP p c st.ρ=true then
   some λv=>⟨st.ρ.map λe=>{e with sv:=e.sv.cv2 r v},((st.own.map (Blk.cv r v)).set p (.pool T b (k+1) (λx=>if x=k then v else f x) (λx=>decide (x=k)||h x) (λx=>if x=k then m else i x) (λx=>if x=k then g else j x))).set r .dead⟩
   else none
  |_,_=>none
 |_=>none
def b6g(E:Env)(k j p t l:Nat)(st:St):Option (Prop×St):=match CO t st.ρ,st.own[k]?,st.own[p]? with
 |some ⟨_,none,.int _ i⟩,some (.row T o n f c),some (.pool b a m d e g h)=>if k≠p/\E.ak p=false/\witP p l st.ρ=true then
  some (i.toNat<n/\i.toNat<m/\e i.toNat=true/\(f i.toNat).getD j .any=.con (d i.toNat),
   ⟨st.ρ,(st.own.set k (.rowh T o n f c i.toNat ((f i.toNat).set j (.osl st.own.length)))).set p (.pool b a m d (λx=> !decide (x=i.toNat)&&e x) g h)++[.row b a (g i.toNat) (h i.toNat) none]⟩)
  else none
 |_,_,_=>none
def b5s(E:Env)(k j p d:Nat)(st:St):Option (Prop×St):=match st.own[k]?,st.own[p]? with
 |some (.row T g n f c),some (.pool _ a m h b i l)=>if k≠p/\E.ak p=false/\witP p d st.ρ=true then
  some (∀q,q<n->q<m->b q=true->(f q)[j]?=some (.con (h q)),
   ⟨st.ρ.map λe=>{e with sv:=e.sv.uf2 p 0},((st.own.map (Blk.uf p 0)).set k (.row T g n (λq=>if q<m/\b q=true then(f q).set j (.sl a (i q) (l q) none)else f q) c)).set p .dead⟩)
  else none
 |_,_=>none
section
variable{E:Env}{B0:Nat}{X A:Nat->Prop}{w0:World}{nt:Nat}{st:St}{a:Act}{w:World}{μ:Mu}
theorem c28(h:SD E B0 X A w0 nt st a w μ){T:TypeId}{sz t:Nat}{m:St}(n:d5d T sz t st=some m):∃μ',SD E B0 X A w0 nt m a w μ':=by
 unfold d5d at n;split at n;rotate_left
 .cases n
 rename_i G k B H;simp only[Ka]at n;subst n;have I:=NK H;simp only at I;subst I;have z:=h.env _ _ H;unfold DE at z;simp only at z;obtain⟨b,hkb,O⟩:∃b,μ k=some (.pointer (some ⟨b,0,none⟩))/\a.tmps.getD G undef=.pointer (some ⟨b,B,none⟩):=by
  generalize a.tmps.getD G undef=vv at z;cases z with
  |own l=>exact⟨_,l,rfl⟩
 let f:List Value:=[.pointer (some ⟨b,0,none⟩)]
 have P:=h.fresh st.own.length (Jp _);have d:∀{j x},μ j=some x->μ.set st.own.length (BQ f []) j=some x:=λ{j x} c=>by
  unfold Mu.set;split
  .rename_i e;rw[e,P]at c;cases c
  .exact c
 have o:∀{j x},μ.set st.own.length (BQ f []) j=some x->(j=st.own.length/\x=BQ f [])\/(j≠st.own.length/\μ j=some x):=by
  intro j x c;unfold Mu.set at c;split at c
  .exact .inl ⟨‹_›,(Km c).symm⟩
  .exact .inr ⟨‹_›,c⟩
 have nohas:∀b,¬CS (BQ f []) b:=λb r=>by obtain⟨Q,u,C,_⟩:=Oc.1 r;simp at C
 have J:∀b,held A (μ.set st.own.length (BQ f [])) b->held A μ b:=by
  rintro b (r|⟨j,x,c,hx⟩)
  .exact .inl r
  .rcases o c with⟨_,rfl⟩|⟨_,y⟩
   .exact Ca
   .exact .inr ⟨j,x,y,hx⟩
 have K:∀s v,D w (held A μ) μ s v->D w (held A (μ.set st.own.length (BQ f []))) (μ.set st.own.length (BQ f [])) s v:=λs v h=>h.shift J (λj x c _=>d c) (λj f F c=>⟨f,F,d c,λ_ _ h=>h⟩);have R:=El.shift K h.env;refine⟨_,⟨λj x c=> ?_,λj L x S b c y hx M=> ?_,λj x b c hx=> ?_,h.own.bnd⟩,h.fr,h.base,λg s N=>⟨(h.glo g s N).1,K _ _ (h.glo g s N).2⟩,h.dfr,h.size,λq e l=> ?_,λj c=> ?_,λj x hx=>d (h.anc j x hx)⟩
 .rcases o c with⟨rfl,rfl⟩|⟨b9,y⟩
  .exact⟨.pool T sz 0 (λ_=>undef) (λ_=>false) (λ_=>0) (λ_ _=>[]),by simp only[Jy (Jp _),L3];rfl,f,[],rfl,rfl,λi j i' L Q us' u u' b C=>by simp at C,λi U=>absurd U (K5 _)⟩
  .obtain⟨V,e,r⟩:=h.own.blk j x y;have W:j<st.own.length:=(Jk.1 e).1;exact⟨V,by simp only[Jt W];exact e,r.shift J (λj x c _=>d c) (λj f F c=>⟨f,F,d c,λ_ _ h=>h⟩)⟩
 .rcases o c with⟨rfl,rfl⟩|⟨_,g1⟩<;>rcases o y with⟨rfl,rfl⟩|⟨_,Y⟩
  .rfl
  .exact Ca
  .exact absurd M (nohas b)
  .exact h.own.inj j L x S b g1 Y hx M
 .rcases o c with⟨rfl,rfl⟩|⟨_,g1⟩
  .exact Ca
  .exact h.own.rng j x b g1 hx
 .simp only[CO]at l;split at l
  .cases l;unfold DE;simp only;refine .fp ?_;rw[Ji rfl];exact⟨f,[],b,Eh,rfl,O⟩
  .exact R q e l
 .simp only[J4]at c;unfold Mu.set;rw[Jj Dz];exact C9
theorem c52(h:SD E B0 X A w0 nt st a w μ){p j:Nat}(c:witP p j st.ρ=true):∃e f,μ p=some (BQ e f):=by
 unfold witP at c;split at c
 .rename_i k q i o l;simp only[Ju]at c;subst c;have d:=h.env _ _ l;unfold DE at d;simp only at d;generalize a.tmps.getD k undef=vv at d;cases d with
  |fp g=>
   rw[Ji rfl]at g;obtain⟨e,f,b,m,_⟩:=g;exact⟨e,f,m⟩
 .cases c
end
section
variable{w:World}{H H':Nat->Prop}{μ μ':Mu}{r:Nat}{v0:Value}
theorem b4w(a:Drop r 0 H H' μ μ')(b:∀x,μ r=some x->x=v0){s:SV}{v:Value}(h:D w H μ s v):D w H' μ' (s.cv0 r v0) v:=by
 unfold SV.cv0;split
 .rename_i j;split
  .rename_i e;subst e;cases h with
   |osl h=>rw[<-b _ h];exact .con
  .rename_i e;exact Ya a h (by simp[SV.ment0,EM];omega)
 .exact YS a h
theorem c7h(a:Drop r 0 H H' μ μ')(b:∀x,μ r=some x->x=v0){s:SV}{v:Value}(h:D w H μ s v):D w H' μ' (s.cv1 r v0) v:=by
 unfold SV.cv1;split
 .cases h with
  |agg c hl d=>
   refine .agg c Ef (λi s v hs e=> ?_);simp only[Iy]at hs;obtain⟨f,g,rfl⟩:=hs;exact b4w a b (d i f v g e)
 .exact b4w a b h
theorem c92(a:Drop r 0 H H' μ μ')(b:∀x,μ r=some x->x=v0){s:SV}{v:Value}(h:D w H μ s v):D w H' μ' (s.cv2 r v0) v:=by
 unfold SV.cv2;split
 .cases h with
  |tup c hl d=>
   refine .tup c Ef (λi s v hs e=> ?_);simp only[Iy]at hs;obtain⟨f,g,rfl⟩:=hs;exact c7h a b (d i f v g e)
 .exact c7h a b h
theorem DX.cv(a:Drop r 0 H H' μ μ')(c:∀x,μ r=some x->x=v0){x:Value}{bl:Blk}(h:DX w H μ x bl):DX w H' μ' x (bl.cv r v0):=by
 unfold Blk.cv;split
 .obtain⟨b,d,rfl,e,hl,f,g⟩:=h;refine⟨b,d,rfl,e,Ef,f,λi s v hs j=> ?_⟩;simp only[Iy]at hs;obtain⟨k,l,rfl⟩:=hs;exact b4w a c (g i k v l j)
 .exact Om.to (SV.cv0 r v0) (λ_ _=>rfl) (λs v m h=>IK a.less h m) (λs v h=>b4w a c h) h
 .exact h.drop a
theorem El.cv(a:Drop r 0 H H' μ μ')(b:∀x,μ r=some x->x=v0){tmps:Array Value}{ρ:List Entry}(h:El w H μ tmps ρ):El w H' μ' tmps (ρ.map λe=>{e with sv:=e.sv.cv2 r v0}):=by
 intro t e c;rw[VS (f:=λ(e:Entry)=>{e with sv:=e.sv.cv2 r v0}) (λ_=>rfl),Jq]at c;obtain⟨d,g,rfl⟩:=c;have:=h t d g;unfold DE at this⊢;simp only;split at this
 .exact c92 a b this
 .exact⟨λi=>c92 a b (this.1 i),this.2⟩
end
section
variable{E:Env}{B0:Nat}{X A:Nat->Prop}{w0:World}{nt:Nat}{st:St}{a:Act}{w:World}{μ:Mu}
theorem d0k{w:World}{H H':Nat->Prop}{μ μ':Mu}{x:Value}{T:TypeId}{sz n:Nat}{f:Nat->List SV}{c:Option Nat}(d:∀b,H' b->H b)(h:JW w H μ x T sz n f c):JW w H' μ' x T sz n f none:=by obtain⟨a,m,e,g,i,_,j,k⟩:=JW.shift (H':=H') (μ':=μ') (λs v l hs=>IK d hs l) h;exact⟨a,m,e,g,i,.inl rfl,j,k⟩
theorem b1z(h:SD E B0 X A w0 nt st a w μ){t p wt:Nat}{F:Value->St}(G:b4q E t p wt st=some F):∃(v:SlH) (μ':Mu),SD E B0 X A w0 nt (F v.val) a w μ':=by
 unfold b4q at G;split at G;rotate_left
 .cases G
 rename_i t' r gh;split at G;rotate_left
 .cases G
 rename_i T Z m g cap T' sz' k hd al ln ct hr hp;split at G;rotate_left
 .cases G
 rename_i hc;obtain⟨rfl,rfl,I,N,j6,tk⟩:=hc;obtain⟨o,d,B⟩:=c52 h tk;simp only[Ka]at G;subst G;have hrlt:r<st.own.length:=(Jk.1 hr).1;have tm:p<st.own.length:=(Jk.1 hp).1;have J:∃u,μ r=some u:=by
  have Q:=h.env t _ gh;unfold DE at Q;simp only at Q;generalize a.tmps.getD t' undef=vv at Q;cases Q with
  |osl hq=>exact⟨_,hq⟩
 obtain⟨v,C⟩:=J;obtain⟨sv,hsv⟩:∃sv:SlH,v=sv.val:=by obtain⟨R,e,K⟩:=h.own.blk _ _ C;rw[hr]at e;cases e;obtain⟨b,c,e,_⟩:=K;exact⟨⟨b,_,c⟩,e⟩
 refine⟨sv,?_⟩;rw[<-hsv];have hP0:PoolOK w (held A μ) T Z k hd al ln ct d:=by obtain⟨R,e,K⟩:=h.own.blk _ _ B;rw[hp]at e;cases e;obtain⟨ps1,qs1,f,K⟩:=K;obtain⟨rfl,rfl⟩:=PW f;exact K
 let μ':Mu:=λj=>if j=p then some (BQ o (d++[[v]]))else if j=r then none else μ j
 have hv:∀x,μ r=some x->x=v:=λx hx=>by rw[C]at hx;exact(Km hx).symm
 have L:∀z,μ p=some z->z=BQ o d/\PoolOK w (held A μ) T Z k hd al ln ct d:=λz hz=>by rw[B]at hz;exact⟨(Km hz).symm,hP0⟩
 have bh:∀{j x},μ' j=some x->(j=p/\∃u,μ r=some u/\μ p=some (BQ o d)/\x=BQ o (d++[[u]]))\/(j≠p/\j≠r/\μ j=some x):=by
  intro j x hj;by_cases f:j=p
  .subst f;simp only[μ',L1,Ka]at hj;exact .inl ⟨rfl,v,C,B,hj.symm⟩
  .by_cases l:j=r
   .subst l;simp[μ',f]at hj
   .exact .inr ⟨f,l,by simpa[μ',f,l]using hj⟩
 have q:∀{j x b},μ' j=some x->CS x b->(j=p/\∃z,μ p=some z/\CS z b)\/(j=p/\∃z,μ r=some z/\CS z b)\/(j≠p/\j≠r/\μ j=some x):=by
  intro j x b hj hx;rcases bh hj with⟨rfl,u,g1,n,rfl⟩|h3
  .obtain⟨i,jj,M,u',f,l,e3⟩:=Tv.1 hx;by_cases y:i<d.length
   .rw[Jt y]at f;exact .inl ⟨rfl,_,n,Tv.2 ⟨i,jj,M,u',f,l,e3⟩⟩
   .rw[Jy Dz]at f;match br:i-d.length,f with
    |0,f=>
     simp at f;subst f;match jj,l with
     |0,l=>simp at l;subst l;exact .inr (.inl ⟨rfl,_,g1,.inl e3⟩)
     |z+1,l=>simp at l
    |z+1,f=>simp at f
  .exact .inr (.inr h3)
 have S:∀b,held A μ' b->held A μ b:=by
  rintro b (hb|⟨j,x,hj,hx⟩)
  .exact .inl hb
  .rcases q hj hx with⟨_,z,g1,n⟩|⟨_,z,g1,n⟩|⟨_,_,g1⟩
   .exact .inr ⟨p,z,g1,n⟩
   .exact .inr ⟨r,z,g1,n⟩
   .exact .inr ⟨j,x,g1,hx⟩
 have b7:∀u,μ r=some u->DX w (held A μ) μ u (.row T Z m g cap):=λu hu=>by obtain⟨R,e,K⟩:=h.own.blk _ _ hu;rw[hr]at e;cases e;exact K
 have dp:Drop r 0 (held A μ) (held A μ') μ μ':=by
  refine⟨S,λj x hj hx Zi=> ?_,λj ps qs hj hx=> ?_⟩
  .have f:j≠r:=λe=>Gp;have l:j≠p:=λe=>by subst e;exact Zi _ _ (L _ hx).1
   simp[μ',f,l,hx]
  .have f:j≠r:=λe=>Gp;by_cases l:j=p
   .subst l;obtain⟨H,U⟩:=PW (L _ hx).1;exact⟨o,d++[[v]],by simp[μ'],λ_ _ h=>by rw[<-H];exact h⟩
   .exact⟨ps,qs,by simp[μ',f,l,hx],λ_ _ h=>h⟩
 refine⟨μ',⟨λj x hj=> ?_,λj j' x x' b hj bi hx V=> ?_,λj x b hj hx=> ?_,h.own.bnd⟩,h.fr,h.base,λg s hg=>⟨(h.glo g s hg).1,IK S (h.glo g s hg).2 (h.glo g s hg).1⟩,h.dfr,h.size,h.env.cv dp hv,λj hj=> ?_,λj x hx=> ?_⟩
 .rcases bh hj with⟨rfl,u,g1,n,rfl⟩|⟨f,l,g1⟩
  .obtain⟨_,O⟩:=L _ n;obtain rfl:v=u:=(hv _ g1).symm;refine⟨_,by rw[Jz I,Kv (by simpa using tm)],?_⟩;refine⟨o,d++[[v]],rfl,by simp[O.ql],λi1 j1 i2 j2 us1 us2 u1 u2 b k1 k2 k3 k4 k5 k6=> ?_,λi y=> ?_⟩
   .have P:∀{i:Nat} {M:List Value},(d++[[v]])[i]?=some M->(d[i]?=some M)\/(i=d.length/\M=[v]):=by
     intro i M y;by_cases W:i<d.length
     .rw[Jt W]at y;exact .inl y
     .rw[Jy Dz]at y;match br:i-d.length,y with
      |0,y=>simp at y;exact .inr ⟨Dz,y.symm⟩
      |z+1,y=>simp at y
    have one:∀{j:Nat} {u:Value},[v][j]?=some u->u=v:=by
     intro j u hj;match j,hj with
     |0,hj=>simpa using hj.symm
     |z+1,hj=>simp at hj
    rcases P k1 with H|⟨H,rfl⟩<;>rcases P k4 with q4|⟨q4,rfl⟩
    .exact O.nd i1 j1 i2 j2 us1 us2 u1 u2 b H k2 k3 q4 k5 k6
    .have:=one k5;subst this;exact absurd (h.own.inj j r _ _ b n g1 (Tv.2 ⟨_,_,_,_,H,k2,k3⟩) (.inl k6)) (Ne.symm I)
    .have:=one k2;subst this;exact absurd (h.own.inj j r _ _ b n g1 (Tv.2 ⟨_,_,_,_,q4,k5,k6⟩) (.inl k3)) (Ne.symm I)
    .omega
   .by_cases Y:i=k
    .subst Y;refine .inr ⟨E2,by rw[<-O.ql];simp,?_⟩;simp only[L1];exact d0k S (b7 _ g1)
    .have W8:=O.keep (ps:=o) (H':=held A μ') ⟨Jp _,λ_ _ _=>rfl,λb _=>S b⟩ (λ_ _=>rfl);have W:i<d.length:=by rw[O.ql];omega
     rcases W8.mem i Dz with⟨H,U⟩|⟨H,U,q3⟩
     .exact .inl ⟨by simp[Y,H],by rw[Jt W];exact U⟩
     .refine .inr ⟨by simp[H],by rw[Jt W,Jj Y];exact U,?_⟩;simp only[Jj Y];exact q3
  .obtain⟨R,e,hb⟩:=h.own.blk j x g1;exact⟨R.cv r v,by rw[Jz (Ne.symm l),Jz (Ne.symm f),K9,e];rfl,hb.cv dp hv⟩
 .rcases q hj hx with⟨f,z,g1,n⟩|⟨f,z,g1,n⟩|⟨f,e1',g1⟩<;>rcases q bi V with⟨l,z',k1,k2⟩|⟨l,z',k1,k2⟩|⟨l,e2',k1⟩
  .omega
  .omega
  .exact absurd (h.own.inj j' p x' z b k1 g1 V n) l
  .omega
  .omega
  .exact absurd (h.own.inj j' r x' z b k1 g1 V n) e2'
  .exact absurd (h.own.inj j p x z' b g1 k1 hx k2) f
  .exact absurd (h.own.inj j r x z' b g1 k1 hx k2) e1'
  .exact h.own.inj j j' x x' b g1 k1 hx V
 .rcases q hj hx with⟨_,z,g1,n⟩|⟨_,z,g1,n⟩|⟨_,_,g1⟩
  .exact h.own.rng p z b g1 n
  .exact h.own.rng r z b g1 n
  .exact h.own.rng j x b g1 hx
 .simp only[Li,Kh]at hj;have f:j≠p:=Dz;have l:j≠r:=Dz;simp[μ',f,l,h.fresh j hj]
 .have f:j≠p:=λe=>He;have l:j≠r:=λe=>by subst e;rw[Env.an_ak hx]at N;cases N
  simp[μ',f,l,h.anc j x hx]
theorem b7k(h:SD E B0 X A w0 nt st a w μ){k j p t wt:Nat}{W:Prop}{Y:St}(N:b6g E k j p t wt st=some (W,Y))(dc:W):∃μ',SD E B0 X A w0 nt Y a w μ':=by
 unfold b6g at N;split at N;rotate_left
 .cases N
 rename_i t' ki i T sz n f c T' O m G al ln ct gh hk hp;split at N;rotate_left
 .cases N
 rename_i hc;obtain⟨c8,j6,tk⟩:=hc;obtain⟨B,F,l⟩:=c52 h tk;simp only[Iv]at N;obtain⟨rfl,rfl⟩:=N;obtain⟨bg,P2,hal,H⟩:=dc;generalize i.toNat=i at*;have nj:k<st.own.length:=(Jk.1 hk).1;have tm:p<st.own.length:=(Jk.1 hp).1;let L:=st.own.length
 have P:μ L=none:=h.fresh _ (Jp _);have cw:∃s,(f i)[j]?=some s/\s=.con (G i):=by
  cases hs:(f i)[j]? with
  |none=>rw[Jg,hs]at H;cases H
  |some s=>
   rw[Jg,hs,L5]at H;exact⟨_,rfl,H⟩
 obtain⟨s0,c6,rfl⟩:=cw;have kq:j<(f i).length:=(Jk.1 c6).1;have U:PoolOK w (held A μ) T' O m G al ln ct F:=by obtain⟨bl,e,ba⟩:=h.own.blk _ _ l;rw[hp]at e;cases e;obtain⟨ps1,qs1,y,ba⟩:=ba;obtain⟨rfl,rfl⟩:=PW y;exact ba
 have bp:i<F.length:=by rw[U.ql];exact P2
 have W9:F[i]?=some [G i]/\JW w (held A μ) (λ_=>none) (G i) T' O (ln i) (ct i) none:=by
  rcases U.mem i P2 with⟨g1,_⟩|⟨_,g2,r⟩
  .rw[hal]at g1;cases g1
  .exact⟨g2,r⟩
 let μ':Mu:=λq=>if q=p then some (BQ B (F.set i []))else if q=L then some (G i)else μ q
 have hpL:¬L=p:=Dz;have m1:μ' p=some (BQ B (F.set i [])):=by simp[μ']
 have m2:μ' L=some (G i):=by simp[μ',hpL]
 have Z:∀q,q≠p->q≠L->μ' q=μ q:=λq h1 h2=>by simp[μ',h1,h2]
 have bh:∀{q x},μ' q=some x->(q=p/\x=BQ B (F.set i []))\/(q=L/\x=G i)\/(q≠p/\q≠L/\μ q=some x):=by
  intro q x d;by_cases y:q=p
  .subst y;rw[m1]at d;exact .inl ⟨rfl,(Km d).symm⟩
  .by_cases C:q=L
   .subst C;rw[m2]at d;exact .inr (.inl ⟨rfl,(Km d).symm⟩)
   .rw[Z q y C]at d;exact .inr (.inr ⟨y,C,d⟩)
 have j5:∃a n m,G i=.slice a n m:=by obtain⟨a,m,e,_⟩:=W9.2;exact⟨_,_,_,e⟩
 have z:∀{q x b},μ' q=some x->CS x b->(∃(J V:Nat) (K:List Value) (u:Value),F[J]?=some K/\K[V]?=some u/\FO u=some b/\((q=p/\J≠i)\/(q=L/\J=i)))\/(q≠p/\q≠L/\μ q=some x):=by
  intro q x b d hx;rcases bh d with⟨rfl,rfl⟩|⟨rfl,rfl⟩|h3
  .obtain⟨J,V,K,u,g1,g2,r⟩:=Tv.1 hx;obtain⟨y,C⟩:=WK g1 g2;exact .inl ⟨J,V,K,u,C,g2,r,.inl ⟨rfl,y⟩⟩
  .obtain⟨a,n,m,e⟩:=j5;rw[e]at hx;refine .inl ⟨i,0,_,G i,W9.1,rfl,?_,.inr ⟨rfl,rfl⟩⟩;rw[e];exact SX.1 hx
  .exact .inr h3
 have qr:∀{J V K u b},F[J]?=some K->K[V]?=some u->FO u=some b->CS (BQ B F) b:=λg1 g2 r=>Tv.2 ⟨_,_,_,_,g1,g2,r⟩;have be:∀b,held A μ' b->held A μ b:=by
  rintro b (hb|⟨q,x,d,hx⟩)
  .exact .inl hb
  .rcases z d hx with⟨J,V,K,u,g1,g2,r,_⟩|⟨_,_,g1⟩
   .exact .inr ⟨p,_,l,qr g1 g2 r⟩
   .exact .inr ⟨q,x,g1,hx⟩
 have hμ:∀q x,μ q=some x->(∀ps F,x≠BQ ps F)->μ' q=some x:=by
  intro q x d hx;have y:q≠p:=λe=>by subst e;rw[l]at d;exact hx _ _ (Km d).symm
  have C:q≠L:=λe=>by subst e;rw[P]at d;cases d
  rw[Z q y C];exact d
 have hf:∀q Q qs2,μ q=some (BQ Q qs2)->∃ps' qs',μ' q=some (BQ ps' qs')/\∀(i:Nat) (p:Value),Q[i]?=some p->ps'[i]?=some p:=by
  intro q Q qs2 d;by_cases e:q=p
  .subst e;rw[l]at d;obtain⟨rfl,rfl⟩:=PW (Km d);exact⟨_,_,m1,λ_ _ h=>h⟩
  .have C:q≠L:=λe=>by subst e;rw[P]at d;cases d
   exact⟨_,_,(Z q e C).trans d,λ_ _ h=>h⟩
 have hD:∀s v,D w (held A μ) μ s v->D w (held A μ') μ' s v:=λs v h=>h.shift be hμ hf;refine⟨μ',⟨λq x d=> ?_,λq q' x x' b d dq hx cx=> ?_,λq x b d hx=> ?_,h.own.bnd⟩,h.fr,h.base,λg s hg=>⟨(h.glo g s hg).1,hD _ _ (h.glo g s hg).2⟩,h.dfr,h.size,h.env.shift hD,λq d=> ?_,λq x hx=> ?_⟩
 .rcases bh d with⟨rfl,rfl⟩|⟨rfl,rfl⟩|⟨y,C,g1⟩
  .refine⟨_,by rw[Jt (by simpa using tm),Kv (by simpa using tm)],?_⟩;refine⟨B,_,rfl,by simp[U.ql],λR j1 i2 M I S u1 u2 b k1 k2 k3 k4 k5 k6=> ?_,λR dj=> ?_⟩
   .exact U.nd R j1 i2 M I S u1 u2 b (WK k1 k2).2 k2 k3 (WK k4 k5).2 k5 k6
   .have W8:=U.keep (ps:=B) (H':=held A μ') ⟨Jp _,λ_ _ _=>rfl,λb _=>be b⟩ (λ_ _=>rfl);by_cases e:i=R
    .subst e;exact .inl ⟨E2,Hf⟩
    .rcases W8.mem R dj with⟨g1,g2⟩|⟨g1,g2,r⟩
     .exact .inl ⟨by simp[g1],Hg⟩
     .exact .inr ⟨by simp[g1,Ne.symm e],Hg,r⟩
  .refine⟨.row T' O (ln i) (ct i) none,by rw[Jy (by simp[L])];simp[L],?_⟩;exact d0k be W9.2
  .obtain⟨bl,e,hb⟩:=h.own.blk q x g1;have P3:q<st.own.length:=(Jk.1 e).1;by_cases ek:q=k
   .subst ek;rw[hk]at e;cases e;refine⟨.rowh T sz n f c i ((f i).set j (.osl L)),by rw[Jt (by simpa using P3),Jz (Ne.symm y),Kv P3],?_⟩;obtain⟨aa,mm,rfl,hn,hm,gq,hl,bc⟩:=hb;rcases bc with rfl|⟨b,o,vs,c9,rfl,hh,ho,h1,fq⟩
    .omega
    refine⟨b,o,mm,vs,rfl,hn,hm,gq,bg,by simpa using(hl i bg).1,λq2 ku _=>hl q2 ku,hh,ho,h1,λq2 M s v ku _ hs H=>hD _ _ (fq q2 M s v ku hs H),λM s v hs H=> ?_⟩;by_cases ej:j=M
    .subst ej;rw[Kv kq]at hs;cases hs;have:=fq i j _ v bg c6 H;cases this;obtain⟨a1,n1,m1',e4⟩:=j5;rw[e4]at m2;rw[e4];exact .osl m2
    .rw[Jz ej]at hs;exact hD _ _ (fq i M s v bg hs H)
   .exact⟨bl,by rw[Jt (by simpa using P3),Jz (Ne.symm y),Jz (Ne.symm ek)];exact e,hb.shift be hμ hf⟩
 .rcases z d hx with⟨R,j1,I,u1,g1,g2,r,g4⟩|⟨g1,g2,r⟩<;>rcases z dq cx with⟨i2,M,S,u2,k1,k2,k3,k4⟩|⟨k1,k2,k3⟩
  .have:=U.nd R j1 i2 M I S u1 u2 b g1 g2 r k1 k2 k3;omega
  .exact absurd (h.own.inj q' p x' _ b k3 l cx (qr g1 g2 r)) k1
  .exact absurd (h.own.inj q p x _ b r l hx (qr k1 k2 k3)) g1
  .exact h.own.inj q q' x x' b r k3 hx cx
 .rcases z d hx with⟨R,j1,I,u1,g1,g2,r,_⟩|⟨_,_,r⟩
  .exact h.own.rng p _ b l (qr g1 g2 r)
  .exact h.own.rng q x b r hx
 .simp only[J4,Li]at d;rw[Z q Dz (by simp only[L];omega)];exact h.fresh q Dz
 .have y:q≠p:=λe=>He;have:=h.anc q x hx;have C:q≠L:=λe=>by subst e;rw[P]at this;cases this
  rw[Z q y C];exact this
theorem b5m(h:SD E B0 X A w0 nt st a w μ){k j p wt:Nat}{C:Prop}{F:St}(t:b5s E k j p wt st=some (C,F))(dc:C):∃μ',SD E B0 X A w0 nt F a w μ':=by
 unfold b5s at t;split at t;rotate_left
 .cases t
 rename_i T sz n f c T' G m M V W Y Z hp;split at t;rotate_left
 .cases t
 rename_i B;obtain⟨c8,j6,tk⟩:=B;simp only[Iv]at t;obtain⟨rfl,rfl⟩:=t;obtain⟨N,J,l⟩:=c52 h tk;have hP:PoolOK w (held A μ) T' G m M V W Y J:=by obtain⟨bl,e,O⟩:=h.own.blk _ _ l;rw[hp]at e;cases e;obtain⟨ps1,qs1,P,O⟩:=O;obtain⟨rfl,rfl⟩:=PW P;exact O
 have nj:k<st.own.length:=(Jk.1 Z).1;have tm:p<st.own.length:=(Jk.1 hp).1;have Q:∀q,q≠p->μ.drop p q=μ q:=λq e=>by simp[Mu.drop,e]
 have u:∀{q x},μ.drop p q=some x->q≠p/\μ q=some x:=by
  intro q x d;simp only[Mu.drop]at d;split at d
  .cases d
  .exact⟨‹_›,d⟩
 have K:∀b,held A (μ.drop p) b->held A μ b:=by
  rintro b (y|⟨q,x,d,hx⟩)
  .exact .inl y
  .exact .inr ⟨q,x,(u d).2,hx⟩
 have dp:Drop p 0 (held A μ) (held A (μ.drop p)) μ (μ.drop p):=by
  refine⟨K,λq x hj hx _=> ?_,λq ps J hj hx=> ?_⟩
  .have e:q≠p:=λe=>Gp;rw[Q q e];exact hx
  .have e:q≠p:=λe=>Gp;exact⟨ps,J,by rw[Q q e];exact hx,λ_ _ h=>h⟩
 have z:∀i,i<m->V i=true->D w (held A (μ.drop p)) (μ.drop p) (.sl G (W i) (Y i) none) (M i):=by
  intro i r ha;rcases hP.mem i r with⟨g1,_⟩|⟨_,g2,g3⟩
  .rw[ha]at g1;cases g1
  .refine c7e K (λb y=> ?_) g3;have R:FO (M i)=some b:=by
    obtain⟨aa,mm,e,_⟩:=g3;rw[e]at y⊢;exact SX.1 y
   have bv:CS (BQ N J) b:=Tv.2 ⟨i,0,_,_,g2,rfl,R⟩;rintro(hA|⟨q,x,d,hx⟩)
   .exact(h.own.rng p _ b l bv).2.1 hA
   .exact(u d).1 (h.own.inj q p x _ b (u d).2 l hx bv)
 refine⟨μ.drop p,⟨λq x d=> ?_,λq q' x x' b d dq hx cx=>h.own.inj q q' x x' b (u d).2 (u dq).2 hx cx,λq x b d hx=>h.own.rng q x b (u d).2 hx,h.own.bnd⟩,h.fr,h.base,λg s S=>⟨(h.glo g s S).1,IK K (h.glo g s S).2 (h.glo g s S).1⟩,h.dfr,h.size,El.drop dp h.env,λq d=> ?_,λq x hx=> ?_⟩
 .obtain⟨H,d⟩:=u d;obtain⟨bl,e,y⟩:=h.own.blk q x d;by_cases ek:q=k
  .subst ek;rw[Z]at e;cases e;refine⟨_,by rw[Jz (Ne.symm H),Kv (by simpa using nj)],?_⟩;obtain⟨aa,mm,rfl,hn,hm,gq,L,bc⟩:=y;refine⟨aa,mm,rfl,hn,hm,gq,λi r=> ?_,?_⟩
   .dsimp only;split
    .refine⟨by rw[Li];exact(L i r).1,Jr.2 λs hs=> ?_⟩;rcases Mn hs with hs|rfl
     .exact Jr.1 (L i r).2 s hs
     .rfl
    .exact L i r
   .rcases bc with rfl|⟨b,o,vs,c9,rfl,hh,ho,h1,fq⟩
    .exact .inl rfl
    .refine .inr ⟨b,o,vs,c9,rfl,hh,ho,h1,λi U s v r hs hv=> ?_⟩;have I:∀s,(f i)[U]?=some s->D w (held A (μ.drop p)) (μ.drop p) s v:=λs hs=>IK K (fq i U s v r hs hv) (Jr.1 (L i r).2 s (Jn hs));dsimp only at hs;split at hs
     .rename_i B;by_cases ej:j=U
      .subst ej;have cw:=dc i r B.1 B.2;rw[Kv (Jk.1 cw).1]at hs;cases hs;have:=fq i j _ v r cw hv;cases this;exact z i B.1 B.2
      .rw[Jz ej]at hs;exact I s hs
     .exact I s hs
  .exact⟨bl.uf p 0,by rw[Jz (Ne.symm H),Jz (Ne.symm ek),K9,e];rfl,y.drop dp⟩
 .simp only[Li,Kh]at d;have:=h.fresh q d;simp[Mu.drop,this]
 .have P:q≠p:=λe=>He;rw[Q q P];exact h.anc q x hx
end
def QG(n:Nat)(K:Nat->Prop):Prop:=NO n K
theorem d7h(n:Nat)(K:Nat->Prop):QG n K=K n:=b7n n K
def SV.f0(s:SV)(K:SV->Prop):Prop:=match s with
 |.int k n=>K (.int k n)
 |.bool b=>K (.bool b)
 |.con v=>K (.con v)
 |.own k o=>QG k λk=>QG o λo=>K (.own k o)
 |.osl k=>QG k λk=>K (.osl k)
 |.oel k a i o=>QG k λk=>QG o λo=>K (.oel k a i o)
 |.sl a n f c=>K (.sl a n f c)
 |.rel a n f i o=>QG o λo=>K (.rel a n f i o)
 |.agg d=>K (.agg d)
 |.tup d=>K (.tup d)
 |.clo f d=>K (.clo f d)
 |.omp k=>QG k λk=>K (.omp k)
 |.mp T e h v=>K (.mp T e h v)
 |.fp g k i o=>QG k λk=>QG o λo=>K (.fp g k i o)
 |.ub p q=>K (.ub p q)
 |.any=>K .any
def fL(f:SV->(SV->Prop)->Prop):List SV->(List SV->Prop)->Prop
 | [],K=>K []
 |s::r,K=>f s λa=>fL f r λb=>K (a::b)
def SV.f1(s:SV)(K:SV->Prop):Prop:=match s with
 |.agg b=>fL SV.f0 b λa=>K (.agg a)
 |.clo f b=>fL SV.f0 b λa=>K (.clo f a)
 |s=>s.f0 K
def SV.f2(s:SV)(K:SV->Prop):Prop:=match s with
 |.tup b=>fL SV.f1 b λa=>K (.tup a)
 |s=>s.f1 K
def fG(g:Option (Nat×Bool))(K:Option (Nat×Bool)->Prop):Prop:=match g with
 |none=>K none
 |some (n,true)=>K (some (n,true))
 |some (n,false)=>K (some (n,false))
def fE:List Entry->(List Entry->Prop)->Prop
 | [],K=>K []
 |⟨n,g,s⟩::r,K=>fG g λa=>s.f2 λb=>fE r λc=>K (⟨n,a,b⟩::c)
def fB:List Blk->(List Blk->Prop)->Prop
 | [],K=>K []
 |.cells T e::r,K=>fL SV.f0 e λd=>fB r λa=>K (.cells T d::a)
 |.row T b n f c::r,K=>fB r λa=>K (.row T b n f c::a)
 |.map T g h v::r,K=>fB r λa=>K (.map T g h v::a)
 |.fam T j n l F::r,K=>fB r λa=>K (.fam T j n l F::a)
 |.pmap T k h v::r,K=>fB r λa=>K (.pmap T k h v::a)
 |.rowh T b n f c i u::r,K=>fL SV.f0 u λm=>fB r λa=>K (.rowh T b n f c i m::a)
 |.pool T b n o p q s::r,K=>fB r λa=>K (.pool T b n o p q s::a)
 |.dead::r,K=>fB r λa=>K (.dead::a)
def St.force(st:St)(K:St->Prop):Prop:=match st with
 |⟨c,own⟩=>fE c λb=>fB own λa=>K ⟨b,a⟩
theorem SV.f0_eq(s:SV)(K:SV->Prop):s.f0 K=K s:=by cases s<;>simp only[SV.f0,d7h]
theorem d8j{f:SV->(SV->Prop)->Prop}(a:∀s K,f s K=K s):∀(l:List SV) (K:List SV->Prop),fL f l K=K l
 | [],_=>rfl
 |s::r,K=>by simp only[fL,a,d8j a r]
theorem SV.f1_eq(s:SV)(K:SV->Prop):s.f1 K=K s:=by cases s<;>simp only[SV.f1,SV.f0_eq,d8j SV.f0_eq]
theorem SV.f2_eq(s:SV)(K:SV->Prop):s.f2 K=K s:=by cases s<;>simp only[SV.f2,SV.f1_eq,d8j SV.f1_eq]
theorem f21(g:Option (Nat×Bool))(K:Option (Nat×Bool)->Prop):fG g K=K g:=by
 match g with
 |none=>rfl
 |some (n,true)=>rfl
 |some (n,false)=>rfl
theorem f8b:∀(l:List Entry) (K:List Entry->Prop),fE l K=K l
 | [],_=>rfl
 |⟨n,g,s⟩::r,K=>by simp only[fE,f21,SV.f2_eq,f8b r]
theorem WM:∀(l:List Blk) (K:List Blk->Prop),fB l K=K l
 | [],_=>rfl
 |.cells T cs::r,K=>by simp only[fB,d8j SV.f0_eq,WM r]
 |.row T a n f c::r,K=>Fm
 |.map T ag h v::r,K=>Fm
 |.fam T Ts n bz F::r,K=>Fm
 |.pmap T k h v::r,K=>Fm
 |.rowh T a n f c i u::r,K=>by simp only[fB,d8j SV.f0_eq,WM r]
 |.pool T a n hd al ln ct::r,K=>Fm
 |.dead::r,K=>Fm
theorem St.force_eq(st:St)(K:St->Prop):st.force K=K st:=by cases st;simp only[St.force,f8b,WM]
def fE1:List Entry->(List Entry->Prop)->Prop
 | [],K=>K []
 |⟨n,g,s⟩::r,K=>fG g λa=>s.f2 λb=>match r with
  | []=>K [⟨n,a,b⟩]
  |x::c=>K (⟨n,a,b⟩::x::c)
theorem fE1_eq(l:List Entry)(K:List Entry->Prop):fE1 l K=K l:=by
 match l with
 | []=>rfl
 |⟨n,g,s⟩::[]=>simp only[fE1,f21,SV.f2_eq]
 |⟨n,g,s⟩::x::xs=>simp only[fE1,f21,SV.f2_eq]
def fB1:List Blk->(List Blk->Prop)->Prop
 | [],K=>K []
 |b::r,K=>K (b::r)
theorem fB1_eq(l:List Blk)(K:List Blk->Prop):fB1 l K=K l:=by cases l<;>rfl
def cheap(o:Oper):Bool:=match o.op with
 |.store _ _ _|.alloc _|.box _ _|.buildSlice _ _ _|.makeSlice _ _ _|.makeMap _ _|.mapUpdate _ _ _ _|.insert _ _ _ _|.call _|.slice _ _ _ _ _=>false
 |_=>true
def St.forceO(o:Oper)(st:St)(K:St->Prop):Prop:=match cheap o with
 |true=>match st with
  |⟨c,own⟩=>fE1 c λb=>fB1 own λa=>K ⟨b,a⟩
 |false=>st.force K
theorem St.forceO_eq(o:Oper)(st:St)(K:St->Prop):st.forceO o K=K st:=by
 unfold St.forceO;split
 .cases st;simp only[fE1_eq,fB1_eq]
 .exact St.force_eq st K
def LI(p:Prop):Prop:=p
theorem LI.mk{p:Prop}(h:p):LI p:=h
theorem LI.out{p:Prop}(h:LI p):p:=h
attribute [irreducible] LI
def RD(a b:Option Entry):Prop:=a=b
theorem RD.mk{a b:Option Entry}(h:a=b):RD a b:=h
theorem RD.out{a b:Option Entry}(h:RD a b):a=b:=h
attribute [irreducible] RD
def ppOf(E:Env)(o:Oper):Option (Nat×Nat×Nat):=match o.dst with
 |some d=>match E.gr (2000+d)with
  |.poolPut t p a::_=>some (t,p,a)
  |_=>none
 |none=>none
def TO(E:Env)(o:Oper)(K:St->Prop)(st:St):Prop:=match ppOf E o with
 |none=>K st
 |some (t,p,a)=>match b4q E t p a st with
  |some F=>RB λv=>(F v.val).force K
  |none=>False
theorem b1t{E:Env}{e:Nat}{X A:Nat->Prop}{f:World}{g:Nat}{st:St}{a:Act}{w:World}{μ:Mu}{o:Oper}{K:St->Prop}(h:SD E e X A f g st a w μ)(c:TO E o K st):∃d b,SD E e X A f g d a w b/\K d:=by
 unfold TO at c;split at c
 .exact⟨st,μ,h,c⟩
 .split at c
  .rename_i F j;obtain⟨v,b,k⟩:=b1z h j;have i:=c.out v;rw[St.force_eq]at i;exact⟨F v.val,b,k,i⟩
  .exact c.elim
theorem d3z{E:Env}{o:Oper}{K b:St->Prop}{st:St}(c:∀st,K st->b st)(a:TO E o K st):TO E o b st:=by
 unfold TO at a⊢;split at a
 .exact c _ a
 .split at a
  .rename_i F he;refine RB.mk λv=> ?_;have d:=a.out v;rw[St.force_eq]at d⊢;exact c _ d
  .exact a.elim
def TH(E:Env)(b:Nat)(ops:Array Oper)(K:St->Prop)(o:Oper)(st:St):Prop:=match f2x E b ops st o with
 |some (p,a)=>LI p/\a.forceO o K
 |none=>False
theorem f16{E:Env}{b:Nat}{ops:Array Oper}{o:Oper}{K c:St->Prop}(d:∀st,K st->c st)(st:St)(a:TH E b ops K o st):TH E b ops c o st:=by
 unfold TH at a⊢;split at a
 .rw[St.forceO_eq]at a⊢;exact⟨a.1,d _ a.2⟩
 .exact a.elim
noncomputable def PE(E:Env)(a:Nat)(ops:Array Oper)(K:St->Prop)(l:List Oper):St->Prop:=
 List.rec (motive:=λ_=>St->Prop) K (λo _ k b=>TO E o (TH E a ops k o) b) l
theorem b4s{E:Env}{a:Nat}{ops:Array Oper}{K:St->Prop}{st:St}:PE E a ops K [] st=K st:=rfl
theorem b2f{E:Env}{a:Nat}{ops:Array Oper}{K:St->Prop}{o:Oper}{r:List Oper}{st:St}:PE E a ops K (o::r) st=TO E o (TH E a ops (PE E a ops K r) o) st:=rfl
def HN:Option Nat->Option Nat->Prop
 |_,none=>True
 |c,some m=>c=some m
def SV.lf:SV->SV->Prop
 |_,.any=>True
 |.int k n,.int d m=>if k=d then n=m else False
 |.bool b,.bool c=>b=c
 |.ub p q,.ub y z=>(p->y)/\(q->z)
 |.con v,.con s=>v=s
 |.own k o,.own d e=>if k=d/\o=e then True else False
 |.osl k,.osl d=>if k=d then True else False
 |.oel k g i o,.oel d a t e=>k=d/\g=a/\i=t/\o=e
 |.sl g n f c,.sl a l r u=>n=l/\(if g=a then True else n=0)/\HN c u/\∀i,i<n->f i=r i
 |.con (.slice none 0 0),.sl _ l _ u=>l=0/\HN (some 0) u
 |.rel g n f i o,.rel a l r t e=>g=a/\n=l/\i=t/\o=e/\∀j,j<n->f j=r j
 |.clo f A,.clo r w=>f=r/\A=w
 |.omp k,.omp d=>if k=d then True else False
 |.mp T B h v,.mp C x E s=>(T=C/\B=x)/\(∀q,h q=E q)/\∀q,h q=true->v q=s q
 |_,_=>False
def Th:List SV->List SV->Prop
 | [],[]=>True
 |s::r,t::q=>s.lf t/\Th r q
 |_,_=>False
def Hl(xs a:List SV):Prop:=xs=a\/Th xs a
theorem SH{n:Nat}{f a:Nat->List SV}(h:∀i,i<n->f i=a i):∀i,i<n->Hl (f i) (a i):=λi b=>.inl (h i b)
def SV.le0:SV->SV->Prop
 |_,.any=>True
 |.int k n,.int a m=>if k=a then n=m else False
 |.bool b,.bool c=>b=c
 |.ub p q,.ub z A=>(p->z)/\(q->A)
 |.con v,.con u=>v=u
 |.own k o,.own a g=>if k=a/\o=g then True else False
 |.osl k,.osl a=>if k=a then True else False
 |.oel k l i o,.oel a d r g=>k=a/\l=d/\i=r/\o=g
 |.sl l n f c,.sl d s t w=>n=s/\(if l=d then True else n=0)/\HN c w/\∀i,i<n->Hl (f i) (t i)
 |.con (.slice none 0 0),.sl _ s _ w=>s=0/\HN (some 0) w
 |.rel l n f i o,.rel d s t r g=>l=d/\n=s/\i=r/\o=g/\∀j,j<n->f j=t j
 |.clo f B,.clo t x=>f=t/\B=x
 |.omp k,.omp a=>if k=a then True else False
 |.mp T C h v,.mp E y F u=>(T=E/\C=y)/\(∀q,h q=F q)/\∀q,h q=true->v q=u q
 |.fp G k i o,.fp e a r g=>(if k=a/\o=g then True else False)/\G=e/\(e=true->i=r)
 |.con (.pointer none),.fp e _ _ _=>e=false
 |_,_=>False
def BH:List SV->List SV->Prop
 | [],[]=>True
 |s::r,t::q=>s.le0 t/\BH r q
 |_,_=>False
def SV.le1:SV->SV->Prop
 |.agg b,.agg a=>BH b a
 |s,t=>s.le0 t
def le1L:List SV->List SV->Prop
 | [],[]=>True
 |s::r,t::q=>s.le1 t/\le1L r q
 |_,_=>False
def SV.le2:SV->SV->Prop
 |.tup b,.tup a=>le1L b a
 |s,t=>s.le1 t
section
variable{w:World}{H:Nat->Prop}{μ:Mu}
theorem YI{c b:Option Nat}{m:Nat}(h:HN c b)(a:c=none\/c=some m):b=none\/b=some m:=by
 cases b with
 |none=>exact .inl rfl
 |some k=>
  simp only[HN]at h;subst h;rcases a with a|a
  .cases a
  .exact .inr a
theorem f37{s t:SV}{v:Value}(h:D w H μ s v)(d:s.lf t):D w H μ t v:=by
 unfold SV.lf at d;split at d
 .exact .any
 .split at d
  .subst_vars;exact h
  .exact d.elim
 .subst d;exact h
 .cases h with
  |ub k h2=>exact .ub (λe=>d.1 (k e)) (λe=>d.2 (h2 e))
 .subst d;exact h
 .split at d
  .rename_i e;obtain⟨rfl,rfl⟩:=e;exact h
  .exact d.elim
 .split at d
  .subst_vars;exact h
  .exact d.elim
 .obtain⟨rfl,rfl,rfl,rfl⟩:=d;exact h
 .rename_i z n f c l n' f' c';obtain⟨rfl,x,hc,hf⟩:=d;cases h with
  |sl a b o m g hm hx gq u hl hd=>
   by_cases y:n=0
   .subst y;exact Dg
   .have e:z=l:=by
     split at x
     .assumption
     .exact absurd x y
    subst e;exact .sl a b o m g hm hx (YI hc gq) u (λi hi=>Gq) (λi j s hi hs=>hd i j s hi Gr)
 .obtain⟨rfl,hc⟩:=d;cases h;exact Dh
 .obtain⟨rfl,rfl,rfl,rfl,hf⟩:=d;cases h with
  |rel b o g hi hb u hl hd=>exact .rel b o g hi hb u (λi hi=>Gq) (λi j s hi hs=>hd i j s hi Gr)
 .obtain⟨rfl,rfl⟩:=d;exact h
 .split at d
  .subst_vars;exact h
  .exact d.elim
 .obtain⟨⟨rfl,rfl⟩,k,h2⟩:=d;cases h with
  |mp r g hb hm hl hd=>
   have e:=Nn k;subst e;exact Di
 .exact d.elim
theorem d36:∀{cs a:List SV},Th cs a->cs.length=a.length/\∀(i:Nat) (t:SV),a[i]?=some t->∃s,cs[i]?=some s/\s.lf t
 | [],[],_=>⟨rfl,λi t h=>Ec⟩
 |s::r,t::q,h=>by
  obtain⟨h1,b⟩:=d36 h.2;refine⟨Es,λi c ht=> ?_⟩;match i with
  |0=>simp at ht;subst ht;exact⟨s,rfl,h.1⟩
  |i+1=>simpa using b i c Fg
 | [],_::_,h=>h.elim
 |_::_,[],h=>h.elim
theorem g1e{s t:SV}(h:s.lf t)(a:s.pure=true):t.pure=true:=by
 unfold SV.lf at h;split at h
 .rfl
 .rfl
 .rfl
 .rfl
 .rfl
 .cases a
 .cases a
 .cases a
 .rfl
 .rfl
 .rfl
 .obtain⟨_,rfl⟩:=h;exact a
 .cases a
 .rfl
 .exact h.elim
theorem b38{cs a:List SV}(h:Hl cs a):cs.length=a.length/\(∀(i:Nat) (t:SV),a[i]?=some t->∃s,cs[i]?=some s/\∀{v:Value},D w H μ s v->D w H μ t v)/\(cs.all SV.pure=true->a.all SV.pure=true):=by
 rcases h with rfl|h
 .exact⟨rfl,λi t b=>⟨t,b,λh=>h⟩,λh=>h⟩
 .obtain⟨e,d⟩:=d36 h;refine⟨e,λi t b=> ?_,λf=> ?_⟩
  .obtain⟨s,hs,c⟩:=d i t b;exact⟨s,hs,λg=>f37 g c⟩
  .rw[Jr];intro t b;obtain⟨i,j⟩:=Lg.1 b;obtain⟨s,hs,c⟩:=d i t j;exact g1e c (Jr.1 f s (Jn hs))
theorem b5k{s t:SV}{v:Value}(h:D w H μ s v)(d:s.le0 t):D w H μ t v:=by
 unfold SV.le0 at d;split at d
 .exact .any
 .split at d
  .subst_vars;exact h
  .exact d.elim
 .subst d;exact h
 .cases h with
  |ub k h2=>exact .ub (λe=>d.1 (k e)) (λe=>d.2 (h2 e))
 .subst d;exact h
 .split at d
  .rename_i e;obtain⟨rfl,rfl⟩:=e;exact h
  .exact d.elim
 .split at d
  .subst_vars;exact h
  .exact d.elim
 .obtain⟨rfl,rfl,rfl,rfl⟩:=d;exact h
 .rename_i A n f c l n' f' c';obtain⟨rfl,x,hc,hf⟩:=d;cases h with
  |sl a b o m g hm hx gq u hl hd=>
   by_cases y:n=0
   .subst y;exact Dg
   .have e:A=l:=by
     split at x
     .assumption
     .exact absurd x y
    subst e;exact .sl a b o m g hm hx (YI hc gq) u (λi hi=>by
     obtain⟨g1,_,B⟩:=b38 (w:=w) (H:=H) (μ:=μ) (hf i hi);exact⟨g1▸(hl i hi).1,B (hl i hi).2⟩) (λi j s hi hs=>by
     obtain⟨C,E,F⟩:=(b38 (w:=w) (H:=H) (μ:=μ) (hf i hi)).2.1 j s hs;exact F (hd i j C hi E))
 .obtain⟨rfl,hc⟩:=d;cases h;exact Dh
 .obtain⟨rfl,rfl,rfl,rfl,hf⟩:=d;cases h with
  |rel b o g hi hb u hl hd=>exact .rel b o g hi hb u (λi hi=>Gq) (λi j s hi hs=>hd i j s hi Gr)
 .obtain⟨rfl,rfl⟩:=d;exact h
 .split at d
  .subst_vars;exact h
  .exact d.elim
 .obtain⟨⟨rfl,rfl⟩,k,h2⟩:=d;cases h with
  |mp r g hb hm hl hd=>
   have e:=Nn k;subst e;exact Di
 .obtain⟨z,rfl,hi⟩:=d;split at z;rotate_left
  .exact z.elim
  rename_i e;obtain⟨rfl,rfl⟩:=e;cases h with
  |fp h=>
   refine .fp ?_;split
   .rename_i e;rw[Ji e]at h;rw[<-hi e];exact h
   .rename_i e;rwa[Jj e]at h
 .subst d;cases h;exact .fp rfl
 .exact d.elim
theorem c06:∀{cs a:List SV},BH cs a->cs.length=a.length/\∀(i:Nat) (t:SV),a[i]?=some t->∃s,cs[i]?=some s/\s.le0 t
 | [],[],_=>⟨rfl,λi t h=>Ec⟩
 |s::r,t::q,h=>by
  obtain⟨h1,b⟩:=c06 h.2;refine⟨Es,λi c ht=> ?_⟩;match i with
  |0=>simp at ht;subst ht;exact⟨s,rfl,h.1⟩
  |i+1=>simpa using b i c Fg
 | [],_::_,h=>h.elim
 |_::_,[],h=>h.elim
theorem c3q{s t:SV}{v:Value}(h:D w H μ s v)(a:s.le1 t):D w H μ t v:=by
 unfold SV.le1 at a;split at a
 .obtain⟨h1,b⟩:=c06 a;cases h with
  |agg c hl d=>
   refine .agg c Dz (λi t v e f=> ?_);obtain⟨s,hs,g⟩:=b i t e;exact b5k (d i s v hs f) g
 .exact b5k h a
theorem c8g:∀{cs a:List SV},le1L cs a->cs.length=a.length/\∀(i:Nat) (t:SV),a[i]?=some t->∃s,cs[i]?=some s/\s.le1 t
 | [],[],_=>⟨rfl,λi t h=>Ec⟩
 |s::r,t::q,h=>by
  obtain⟨h1,b⟩:=c8g h.2;refine⟨Es,λi c ht=> ?_⟩;match i with
  |0=>simp at ht;subst ht;exact⟨s,rfl,h.1⟩
  |i+1=>simpa using b i c Fg
 | [],_::_,h=>h.elim
 |_::_,[],h=>h.elim
theorem Rm{s t:SV}{v:Value}(h:D w H μ s v)(a:s.le2 t):D w H μ t v:=by
 unfold SV.le2 at a;split at a
 .obtain⟨h1,b⟩:=c8g a;cases h with
  |tup c hl d=>
   refine .tup c Dz (λi t v e f=> ?_);obtain⟨s,hs,g⟩:=b i t e;exact c3q (d i s v hs f) g
 .exact c3q h a
end
def SV.in0(n:Nat):SV->Bool
 |.own k _=>decide (k<n)
 |.osl k=>decide (k<n)
 |.oel k _ _ _=>decide (k<n)
 |.omp k=>decide (k<n)
 |.fp _ k _ _=>decide (k<n)
 |.clo _ a=>a.all λc=>match c with
  |.own k _=>decide (k<n)
  |.osl k=>decide (k<n)
  |.omp k=>decide (k<n)
  |.fp _ k _ _=>decide (k<n)
  |.oel _ _ _ _|.agg _|.tup _=>false
  |.clo _ a=>a.isEmpty
  |_=>true
 |.agg _|.tup _=>false
 |_=>true
def SV.in1(n:Nat):SV->Bool
 |.agg a=>a.all (SV.in0 n)
 |s=>s.in0 n
def SV.in2(n:Nat):SV->Bool
 |.tup a=>a.all (SV.in1 n)
 |s=>s.in1 n
def cut(n:Nat)(μ:Mu):Mu:=λk=>if k<n then μ k else none
section
variable{w:World}{H H':Nat->Prop}{μ:Mu}{n:Nat}
theorem b6s(j:∀b,H' b->H b){s:SV}{v:Value}(h:D w H μ s v)(hi:s.in0 n=true):D w H' (cut n μ) s v:=by
 have c:∀{k x},k<n->μ k=some x->cut n μ k=some x:=λC hx=>by simp[cut,C,hx]
 cases h with
 |int=>exact .int
 |bool=>exact .bool
 |con=>exact .con
 |own h=>exact .own (c G6 h)
 |osl h=>exact .osl (c G6 h)
 |oel h=>exact .oel (c G6 h)
 |omp h=>exact .omp (c G6 h)
 |fp h=>exact D.fp_mk (λu y e=>⟨u,y,c G6 e,λ_ h=>h⟩) h
 |mp r g l q d f=>exact GW j (.mp r g l q d f) rfl
 |sl a b o m g q hx hc t d f=>exact GW j (.sl a b o m g q hx hc t d f) rfl
 |rel b o g z l t d f=>exact GW j (.rel b o g z l t d f) rfl
 |agg=>simp[SV.in0]at hi
 |tup=>simp[SV.in0]at hi
 |clo E d f=>
  refine .clo E d (λi s v hs F=> ?_);have hc:=Jr.1 hi s (Jn hs);have G:=f i s v hs F;cases G with
  |own h=>exact .own (c Ex h)
  |osl h=>exact .osl (c Ex h)
  |omp h=>exact .omp (c Ex h)
  |fp h=>exact D.fp_mk (λu y e=>⟨u,y,c Ex e,λ_ h=>h⟩) h
  |mp r g l q d f=>exact GW j (.mp r g l q d f) rfl
  |oel h=>simp at hc
  |agg=>simp at hc
  |tup=>simp at hc
  |clo I J K=>exact GW j (.clo I J K) I6
  |int=>exact .int
  |bool=>exact .bool
  |con=>exact .con
  |ub A B=>exact .ub A B
  |any=>exact .any
  |sl a b o m g q hx L t d f=>exact GW j (.sl a b o m g q hx L t d f) rfl
  |rel b o g z l t d f=>exact GW j (.rel b o g z l t d f) rfl
 |ub A B=>exact .ub A B
 |any=>exact .any
theorem c2a(a:∀b,H' b->H b){s:SV}{v:Value}(h:D w H μ s v)(hi:s.in1 n=true):D w H' (cut n μ) s v:=by
 unfold SV.in1 at hi;split at hi
 .cases h with
  |agg c d e=>exact .agg c d (λi s v hs f=>b6s a (e i s v hs f) (Jr.1 hi s (Jn hs)))
 .exact b6s a h hi
theorem c3s(a:∀b,H' b->H b){s:SV}{v:Value}(h:D w H μ s v)(hi:s.in2 n=true):D w H' (cut n μ) s v:=by
 unfold SV.in2 at hi;split at hi
 .cases h with
  |tup c d e=>exact .tup c d (λi s v hs f=>c2a a (e i s v hs f) (Jr.1 hi s (Jn hs)))
 .exact c2a a h hi
end
def c76:List (Nat×(Nat->List SV))->List (Nat×(Nat->List SV))->Prop
 | [],[]=>True
 |a::r,b::q=>a.1=b.1/\(∀i,i<a.1->a.2 i=b.2 i)/\c76 r q
 |_,_=>False
def d7i(n:Nat):Option (Nat×Nat)->Bool
 |some (_,c)=>decide (c<n)
 |none=>true
theorem c6j{n:Nat}{a:Option (Nat×Nat)}(h:d7i n a=true):∀i c,a=some (i,c)->c<n:=λi c e=>by subst e;simpa[d7i]using h
def Mem.le(m m':Mem):Prop:=m.cs=m'.cs/\c76 m.rows m'.rows
def Blk.le(n:Nat):Blk->Blk->Prop
 |.cells T x,.cells a g=>(if T=a/\g.all (SV.in0 n)=true then True else False)/\BH x g
 |.row T j k f c,.row a d e y z=>(if T=a/\j=d then True else False)/\k=e/\HN c z/\∀i,i<k->Hl (f i) (y i)
 |.map T A h v,.map a l m o=>(T=a/\A=l)/\(∀q,h q=m q)/\∀q,h q=true->v q=o q
 |.fam T B k C F,.fam a p e b E=>(if T=a/\B=p/\d7i n b=true then True else False)/\k=e/\C=b/\∀i,i<k->(F i).le (E i)
 |.pmap T k h v,.pmap a e m o=>(if T=a/\k=e/\k<n then True else False)/\(∀q,h q=m q)/\∀q,h q=true->v q=o q
 |.pool T j k G u w H,.pool a d e I r s t=>(if T=a/\j=d then True else False)/\k=e/\(∀i,i<k->u i=r i)/\∀i,i<k->u i=true->G i=I i/\w i=s i/\∀q,q<w i->H i q=t i q
 |_,.dead=>True
 |_,_=>False
def TL(n:Nat):List Blk->List Blk->Prop
 |_,[]=>True
 |b::r,a::c=>b.le n a/\TL n r c
 | [],_::_=>False
def f9v(n:Nat)(ρ:List Entry):List Entry->Prop
 | []=>True
 |e::r=>(match e.guard,CO e.slot ρ with
  |none,some x=>match x.guard with
   |none=>(if e.sv.in2 n then True else False)/\x.sv.le2 e.sv
   |some _=>False
  |_,_=>False)/\f9v n ρ r
def UB(st a:St):Prop:=TL a.own.length st.own a.own/\f9v a.own.length st.ρ a.ρ
section
variable{w:World}{H:Nat->Prop}{μ:Mu}
theorem b2y{n:Nat}:∀{l c:List Blk},TL n l c->∀(k:Nat) (a:Blk),c[k]?=some a->∃b,l[k]?=some b/\b.le n a
 |_,[],_=>λk b h=>Ec
 |b::r,a::r',h=>λk x hx=>by
  match k with
  |0=>simp at hx;subst hx;exact⟨b,rfl,h.1⟩
  |k+1=>simpa using b2y h.2 k x (by simpa using hx)
 | [],_::_,h=>h.elim
theorem JW.le{μ:Mu}{x:Value}{T:TypeId}{sz n:Nat}{f d:Nat->List SV}{c:Option Nat}(h:JW w H μ x T sz n f c)(hf:∀i,i<n->f i=d i):JW w H μ x T sz n d c:=by
 obtain⟨a,m,rfl,e,g,k,hl,l⟩:=h;refine⟨a,m,rfl,e,g,k,λi hi=>Gq,?_⟩;rcases l with h|⟨b,o,q,r,rfl,t,u,y,z⟩
 .exact .inl h
 .exact .inr ⟨b,o,q,r,rfl,t,u,y,λi j s v hi hs A=>z i j s v hi Gr A⟩
theorem b82:∀{l c:List (Nat×(Nat->List SV))},c76 l c->l.length=c.length/\∀(j:Nat) (b:Nat×(Nat->List SV)),c[j]?=some b->∃a,l[j]?=some a/\a.1=b.1/\∀i,i<a.1->a.2 i=b.2 i
 | [],[],_=>⟨rfl,λj b h=>Ec⟩
 |a::r,b::q,h=>by
  obtain⟨d,e,f⟩:=h;obtain⟨g,k⟩:=b82 f;refine⟨by simp[g],λj x hx=> ?_⟩;match j with
  |0=>simp at hx;subst hx;exact⟨a,rfl,d,e⟩
  |j+1=>simpa using k j x (by simpa using hx)
 | [],_::_,h=>h.elim
 |_::_,[],h=>h.elim
theorem MemOK.le{T:TypeId}{b:List (TypeId×Nat)}{m m':Mem}{p:Value}{us:List Value}(h:MemOK w H T b m p us)(d:m.le m'):MemOK w H T b m' p us:=by obtain⟨c,e⟩:=d;obtain⟨f,g⟩:=b82 e;refine⟨by rw[<-c];exact h.cells,by rw[<-c];exact h.memc,h.len,by rw[<-f];exact h.rlen,λj t r u i k l=> ?_⟩;obtain⟨a,n,o,q⟩:=g j r k;have:=(h.rows j t a u i n l).le q;rwa[o]at this
theorem FamOK.le{T:TypeId}{d:List (TypeId×Nat)}{n:Nat}{e:Option Nat}{F f:Nat->Mem}{ps:List Value}{g:List (List Value)}(h:FamOK w H T d n e F ps g)(k:∀i,i<n->(F i).le (f i)):FamOK w H T d n e f ps g:=by
 refine⟨h.pl,h.ql,h.nd,λi j=> ?_⟩;obtain⟨b,l,m,o,a⟩:=h.mem i j;refine⟨b,l,m,o,?_⟩;rcases a with a|⟨a,c,rfl,p⟩
 .exact .inl a
 .exact .inr ⟨a,c,rfl,p.le (k i j)⟩
theorem Blk.le_sound{n:Nat}{H':Nat->Prop}(G:∀b,H' b->H b){x:Value}{bl I:Blk}(h:DX w H μ x bl)(A:bl.le n I):DX w H' (cut n μ) x I:=by
 unfold Blk.le at A;split at A
 .obtain⟨d,C⟩:=A;split at d;rotate_left
  .exact d.elim
  rename_i B;obtain⟨rfl,M⟩:=B;obtain⟨u,y⟩:=c06 C;obtain⟨b,N,rfl,J,wk,V,E⟩:=h;refine⟨b,N,rfl,J,Dz,V,λi s v hs K=> ?_⟩;obtain⟨t,W,X⟩:=y i s hs;exact b6s G (b5k (E i t v W K) X) (Jr.1 M s (Jn hs))
 .rename_i T Y k f c T' sz' k' O c';obtain⟨d,rfl,Z,P⟩:=A;split at d;rotate_left
  .exact d.elim
  rename_i B;obtain⟨rfl,rfl⟩:=B;obtain⟨a,m,rfl,hn,L,gq,C,bc⟩:=h;have Q:∀i,i<k->(O i).length=Y/\(O i).all SV.pure=true:=λi l=>by obtain⟨g1,_,g3⟩:=b38 (w:=w) (H:=H) (μ:=μ) (P i l);exact⟨g1▸(C i l).1,g3 (C i l).2⟩
  refine⟨a,m,rfl,hn,L,YI Z gq,Q,?_⟩;rcases bc with h|⟨b,o,N,c9,rfl,J,ho,u,E⟩
  .exact .inl h
  .refine .inr ⟨b,o,N,c9,rfl,J,ho,u,λi j s v l hs K=> ?_⟩;obtain⟨s0,c6,kr⟩:=(b38 (w:=w) (H:=H) (μ:=μ) (P i l)).2.1 j s hs;exact GW G (kr (E i j s0 v l c6 K)) (Jr.1 (Q i l).2 s (Jn hs))
 .obtain⟨⟨rfl,rfl⟩,u,y⟩:=A;obtain⟨r,g,rfl,L,C,E⟩:=h;have e:=Nn u;subst e;exact⟨r,g,rfl,L,λq z=>by rw[<-y q z];exact C q z,λq i s v z hs K=>IK G (E q i s v z (by rw[y q z];exact hs) K) (Jr.1 (C q z).2 s (Jn (by rw[y q z];exact hs)))⟩
 .obtain⟨d,rfl,rfl,hF⟩:=A;split at d;rotate_left
  .exact d.elim
  rename_i B;obtain⟨rfl,rfl,M⟩:=B;obtain⟨ps,F,rfl,h,J⟩:=h;refine⟨ps,F,rfl,(h.keep ⟨Jp _,λ_ _ _=>rfl,λb _=>G b⟩ (λ_ _=>rfl)).le hF,J.keep (λi c p e d=> ?_)⟩;have:c<n:=c6j M i c e;simp[cut,this,d]
 .obtain⟨d,u,y⟩:=A;split at d;rotate_left
  .exact d.elim
  rename_i B;obtain⟨rfl,rfl,R⟩:=B;obtain⟨⟨ps,F,he⟩,r,g,rfl,L,E⟩:=h;have e:=Nn u;subst e;refine⟨⟨ps,F,by simp[cut,R,he]⟩,r,g,rfl,L,λq z=> ?_⟩;obtain⟨p,e,h⟩:=E q z;rw[y q z]at h;exact⟨p,e,D.fp_keep (λps F e=>⟨ps,F,by simp[cut,R,e],λ_ h=>h⟩) h⟩
 .obtain⟨d,rfl,S,pv⟩:=A;split at d;rotate_left
  .exact d.elim
  rename_i B;obtain⟨rfl,rfl⟩:=B;obtain⟨ps,F,rfl,h⟩:=h;have h:=h.keep (ps:=ps) (H':=H') ⟨Jp _,λ_ _ _=>rfl,λb _=>G b⟩ (λ_ _=>rfl);refine⟨ps,F,rfl,h.ql,h.nd,λi l=> ?_⟩;rcases h.mem i l with⟨u,y⟩|⟨u,y,h3⟩
  .exact .inl ⟨by rw[<-S i l];exact u,y⟩
  .obtain⟨U,e2,e3⟩:=pv i l u;refine .inr ⟨by rw[<-S i l];exact u,by rw[<-U];exact y,?_⟩;rw[<-U,<-e2];exact h3.le e3
 .exact Jm
 .exact A.elim
theorem c38{n:Nat}{ρ:List Entry}:∀{a:List Entry},f9v n ρ a->∀(t:Nat) (e:Entry),CO t a=some e->e.guard=none/\∃x,CO t ρ=some x/\x.guard=none/\e.sv.in2 n=true/\x.sv.le2 e.sv
 | [],_=>λt e h=>by simp[CO]at h
 |y::r,h=>λt e d=>by
  simp only[CO]at d;split at d
  .rename_i hs;cases d;have b:=h.1;split at b
   .rename_i x i hx;split at b
    .rename_i f;obtain⟨g,j⟩:=b;split at g
     .rename_i c;exact⟨i,x,by rw[<-hs];exact hx,f,c,j⟩
     .exact g.elim
    .exact b.elim
   .exact b.elim
  .exact c38 h.2 t e d
def ancB(E:Env)(st:St):Bool:=decide (E.na<=st.own.length)
theorem b7f{E:Env}{r:Nat}{X A:Nat->Prop}{u:World}{v:Nat}{st d:St}{a:Act}(h:SD E r X A u v st a w μ)(C:UB st d)(F:ancB E d=true):∃m,SD E r X A u v d a w m:=by
 obtain⟨G,H⟩:=C;have n:∀b,held A (cut d.own.length μ) b->held A μ b:=by
  intro b f;rcases f with f|⟨k,x,c,hx⟩
  .exact .inl f
  .refine .inr ⟨k,x,?_,hx⟩;unfold cut at c;split at c
   .exact c
   .cases c
 have l:∀{k x},cut d.own.length μ k=some x->k<d.own.length/\μ k=some x:=by
  intro k x c;unfold cut at c;split at c
  .exact⟨‹_›,c⟩
  .cases c
 refine⟨cut d.own.length μ,⟨λk x c=> ?_,λk I x J b c K=>h.own.inj k I x J b (l c).2 (l K).2,λk x b c=>h.own.rng k x b (l c).2,h.own.bnd⟩,h.fr,h.base,
  λg s i=>⟨(h.glo g s i).1,GW n (h.glo g s i).2 (h.glo g s i).1⟩,h.dfr,h.size,λt e y=> ?_,λk c=>by unfold cut;rw[if_neg Dz],λj x hx=>by
   have h1:=Env.ak_lt (Env.an_ak hx);have h2:E.na<=d.own.length:=by simpa[ancB]using F
   unfold cut;rw[Ji Dz];exact h.anc j x hx⟩
 .obtain⟨z,c⟩:=l c;obtain⟨bl,L,f⟩:=h.own.blk k x c;obtain⟨b,B,o⟩:=b2y G k _ (Jh z);rw[L]at B;cases B;exact⟨_,Jh z,Blk.le_sound n f o⟩
 .obtain⟨i,x,hx,q,M,o⟩:=c38 H t e y;have:=h.env t x hx;unfold DE at this⊢;rw[q]at this;rw[i];simp only at this⊢;rw[NK hx]at this;rw[NK y];exact c3s n (Rm this o) M
end
def d8x(E:Env)(own:List Blk)(ρ:Operand->Option SV)(e:Op):Option (Prop×SV×Blk):=
 match e with
 |.call c=>match c.callee with
  |.value f=>match ρ f with
   |some (.clo a [])=>match E.Hc a with
    |some h=>match c.args.toList.mapM ρ with
     |some d=>match d.all SV.pure with
      |true=>match h d []with
       |some r=>match r.own with
        | [b]=>some (r.pre,r.res.ren2 (λk=>some (own.length+k)),b.ren (λk=>some (own.length+k)))
        |_=>none
       |none=>none
      |false=>none
     |none=>none
    |none=>none
   |_=>none
  |_=>none
 |_=>none
section
variable{E:Env}{B0:Nat}{X A:Nat->Prop}{a:Act}{w:World}{μ:Mu}
theorem d1s(hC:HF E){own n:List Blk}(C:Own B0 X A w μ n)(hB:B0<=w.heap.size)(I:μ own.length=none)(Y:∀g s,E.glob g=some s->s.pure=true/\D w (held A μ) μ s (.pointer (some ⟨g,0,none⟩)))
 {ρ:Operand->Option SV} (J:∀(x:Operand) (s:SV),ρ x=some s->D w (held A μ) μ s (a.eval x)) {o:Oper} {K:Prop} {s:SV} {b:Blk} (m:d8x E own ρ o.op=some (K,s,b)) (hp:K) (df:n[own.length]?=some b):
 ∃f z,(execOp a.eval o).run E.P w=.ok (.enter f z) w/\Calls E.P f z w λe L=>∃v d,e=.returned v/\After B0 X A w L μ d n/\(∀j,j≠own.length->d j=μ j)/\D L (held A d) d s v:=by
 unfold d8x at m;split at m;rotate_left
 .cases m
 rename_i c da;split at m;rotate_left
 .cases m
 rename_i f hf;split at m;rotate_left
 .cases m
 rename_i F M;split at m;rotate_left
 .cases m
 rename_i h sa;split at m;rotate_left
 .cases m
 rename_i xs jm;split at m;rotate_left
 .cases m
 rename_i ti;split at m;rotate_left
 .cases m
 rename_i r hr;split at m;rotate_left
 .cases m
 rename_i b0 s7;simp only[Iv]at m;obtain⟨rfl,rfl,rfl⟩:=m;have gp:=J _ _ M;generalize wa:a.eval f=vf at gp;obtain⟨⟨fn,h1,h2,h3⟩,hS⟩:=hC.2.2 F h sa;cases gp with
 |clo Z dt s9=>
 have tj:Z=[]:=M1.1 dt;subst tj;have hD:=Ur (a:=a) J jm;have hm:c.args.map a.eval=(c.args.toList.map a.eval).toArray:=F7;have bt:(execOp a.eval o).run E.P w=.ok (.enter F (c.args.toList.map a.eval).toArray) w:=by simp only[execOp,da,resolve,hf,wa,Deferred.ofValue,hm,Iw,invoke,callFunc,run_program,h1,h2,J5,h3];simp
 have be:∀b,held (held A μ) (λ_=>none) b->held A μ b:=by
  rintro b (l|⟨j,x,G,_⟩)
  .exact l
  .cases G
 have N:∀b,held A μ b->b<w.heap.size:=by
  rintro b (l|⟨k,x,I,hx⟩)
  .exact C.bnd b l
  .exact(C.rng k x b I hx).1
 have Y9:Own 0 (λ_=>True) (held A μ) w (λ_=>none) []:=⟨λk x hx=>(by cases hx),λk S x x' b hx=>(by cases hx),λk x b hx=>(by cases hx),N⟩
 have hDc:DL w (held (held A μ) (λ_=>none)) (λ_=>none) xs (c.args.toList.map a.eval):=⟨hD.1,λi s v hs hv=>IK be (hD.2 i s v hs hv) (Jr.1 ti s (Jn hs))⟩
 have th:∀g t,E.glob g=some t->t.pure=true/\D w (held (held A μ) (λ_=>none)) BT t (.pointer (some ⟨g,0,none⟩)):=λg t hg=>⟨(Y g t hg).1,GW be (Y g t hg).2 (Y g t hg).1⟩
 refine⟨F,_,bt,(hS (held A μ) w xs _ [] (λ_=>none) r N th Y9 (λ_ _=>rfl) hDc hr hp).mono ?_⟩;rintro e L ⟨v,d,rfl,jf,wb,ft,_,q⟩;rw[s7]at jf wb;have T:∀b,¬Oo (λ_=>none) b:=by rintro b ⟨k,x,hx,_⟩;cases hx
 have U:∀{x b},d 0=some x->CS x b->b<L.heap.size/\¬held A μ b/\w.heap.size<=b:=by
  intro x b hx l;obtain⟨O,Q,y⟩:=jf.rng 0 x b hx l;refine⟨O,Q,?_⟩;rcases y with y|y
  .exact y
  .exact(T b y).elim
 refine⟨v,λk=>if k=own.length then d 0 else μ k,rfl,?_⟩;generalize B:(λk=>if k=own.length then d 0 else μ k:Mu)=μ2;have c1:μ2 own.length=d 0:=by rw[<-B];simp
 have u:∀{k},k≠own.length->μ2 k=μ k:=λI=>by rw[<-B];simp[I]
 have jp:∀b,held A μ2 b->held (held A μ) d b:=by
  rintro b (R|⟨k,x,hx,l⟩)
  .exact .inl (.inl R)
  .by_cases e:k=own.length
   .rw[e,c1]at hx;exact .inr ⟨0,x,hx,l⟩
   .rw[u e]at hx;exact .inl (.inr ⟨k,x,hx,l⟩)
 have ni:∀k j x,(λk=>some (own.length+k)) k=some j->d k=some x->μ2 j=some x:=by
  intro k j x G hx;simp only[Ka]at G;subst G;cases k with
  |zero=>rw[Mp,c1];exact hx
  |succ k=>rw[wb (k+1) E2]at hx;cases hx
 have c8:Keeps w L (held A μ) (held A μ2) μ μ2:=by
  refine⟨q.size,λb l _=>q.block b l (T b),λb l hh=> ?_,λk x hx=> ?_⟩
  .rcases hh with R|⟨k,x,hx,Zp⟩
   .exact .inl R
   .by_cases e:k=own.length
    .rw[e,c1]at hx;have:=(U hx Zp).2.2;omega
    .rw[u e]at hx;exact .inr ⟨k,x,hx,Zp⟩
  .have e:k≠own.length:=λe=>by rw[e,I]at hx;cases hx
   rw[u e];exact hx
 refine⟨⟨⟨λk x hx=> ?_,λk S x x' b hx H l je=> ?_,λk x b hx l=> ?_,λb l=>Kf (C.bnd b l) q.size⟩,⟨q.os,q.tape,q.output,q.drawn,q.size,λi hi _=>q.block i (Kf hi hB) (T i)⟩,c8⟩,λj G=>u G,b1i jp ni ft⟩
 .by_cases e:k=own.length
  .subst e;rw[c1]at hx;obtain⟨bl,V,ba⟩:=jf.blk 0 x hx;simp only[Nb,Ka]at V;subst V;exact⟨_,df,ba.ren jp ni⟩
  .rw[u e]at hx;obtain⟨bl,V,ba⟩:=C.blk k x hx;exact⟨bl,V,ba.keep c8 (λb l=>q.block b (C.rng k x b hx l).1 (T b))⟩
 .by_cases e:k=own.length<;>by_cases W:S=own.length
  .rw[e,W]
  .rw[e,c1]at hx;rw[u W]at H;exact((U hx l).2.1 (.inr ⟨S,x',H,je⟩)).elim
  .rw[W,c1]at H;rw[u e]at hx;exact((U H je).2.1 (.inr ⟨k,x,hx,l⟩)).elim
  .rw[u e]at hx;rw[u W]at H;exact C.inj k S x x' b hx H l je
 .by_cases e:k=own.length
  .rw[e,c1]at hx;obtain⟨O,Q,y⟩:=U hx l;exact⟨O,λR=>Q (.inl R),.inl (Lr hB y)⟩
  .rw[u e]at hx;obtain⟨O,Q,y⟩:=C.rng k x b hx l;exact⟨Kf O q.size,Q,y⟩
end
theorem d2t{P:Program}{B0:Nat}{X A:Nat->Prop}{w:World}{μ:Mu}{own l:List Blk}(J:Own B0 X A w μ l)(O:∀(k:Nat) (bl:Blk),own[k]?=some bl->l[k]?=some bl)(Q:B0<=w.heap.size)(R:μ own.length=none){T ty:TypeId}{sz n:Nat}{f:Nat->List SV}{c:Option Nat}{y:SV}{v u:Value}{B:Prop}{k:Nat}{own':List Blk}{K:Bool}(hx:D w (held A μ) μ (.sl sz n f c) v)(hy:D w (held A μ) μ y u)
 (t:UF P own T (.sl sz n f c) y=some (B,k,own',K)) (hp:B) (F:∀b,own'[own.length]?=some b->l[own.length]?=some b):
 ∃r w' μ',(Builtin.append_ #[T,T] ty #[v,u]).run P w=.ok r w'/\D w' (held A μ') μ' (.osl own.length) r/\After B0 X A w w' μ μ' l/\∀j,j≠own.length->μ' j=μ j:=by
 simp only[UF,Js]at t;obtain⟨e,hT,d,L,z,hz,⟨m,g⟩,Zm,t⟩:=t;have S:=RA hT;split at t;rotate_left
 .cases t
 rename_i M;obtain⟨rz,dz,M⟩:=M;obtain⟨inf',C,b8,pg,rfl,re⟩:=TF (w:=w) (H:=held A μ) (μ:=μ) hz;rw[L]at b8;cases b8;have m9:C.cells.size=d.size:=Fh;have ge:∀v∈C.cells.toList,v.oneCell'=true:=TJ re M;obtain⟨U,G,news,rfl,wm,Y2,jd,zp,mf,V,Q8⟩:=b0u J O hy Zm;have S8:(Builtin.firstCells d.size m (.slice U m G)).run P w=.ok news.toArray w:=Tn jd V;have gp:(Builtin.firstCells d.size m (.slice U m G)).run P w.drew=.ok news.toArray w.drew:=Tn jd V;unfold b54 at t;dsimp only at t;split at t;rotate_left
 .cases t
 rename_i bq;subst bq;simp only[Iv]at t;obtain⟨rfl,rfl,rfl,rfl⟩:=t;obtain⟨I,fx,rf,N⟩:=hp;obtain⟨c,rfl⟩:∃G,c=some G:=by
  cases c with
  |none=>exact I.elim
  |some c=>exact⟨c,rfl⟩
 replace I:n=c:=I;obtain⟨a,c0,olds,rfl,hnc0,hcx0,me,zr,dw,qm,V0⟩:=b0u J O hx (sz:=d.size) (n:=n) (f:=f) (by simp[Se]);have V1:c0=n:=by
  cases hx with
  |sl a b o m g hm hx E b7 hl hd=>
   rcases E with E|E
   .cases E
   .cases E;exact I.symm
 subst V1;have W:=J;replace F:l[own.length]?=some (.row e d.size (c0+m) (λj=>if j<c0 then f j else g (j-c0)) none):=F _ E2;rcases Kt m with Y|Y
 .subst Y;obtain rfl:c0=0:=Dz;obtain rfl:news=[]:=Lj Gi;obtain⟨o1,o2⟩:=c1m W R F (a:=a);exact⟨_,w,_,b08 S L S8,.osl Eh,⟨o1,Fr.refl _ _ _,o2⟩,λj hj=>Ep⟩
 .have V2:(Builtin.firstCells d.size c0 (.slice a c0 c0)).run P w.drew=.ok olds.toArray w.drew:=Tn me qm;have hr:=b02 (P:=P) (w:=w) (ty:=ty) S L pg (olds:=olds) (news:=news) V2 gp Dz rf N;have zq:=W.drew;have gv:=grownCap_ge w (c0+m) c0 e;have gw:=O1 w (c0+m) c0 e Ew;obtain⟨o1,o2⟩:=Uk (x:=.slice (some ⟨w.heap.size,0,none⟩) (c0+m) (grownCap w (c0+m) c0 e)) zq Q R F (.cells (olds++news++(Builtin.zeroCells C.cells (grownCap w (c0+m) c0 e-(c0+m))).toList).toArray e) (λb N=>(XD Dz).1 N) (λμ' _ Z=>by
   have dg:=b2v (w':=w.drew.alloc (.cells (olds++news++(Builtin.zeroCells C.cells (grownCap w (c0+m) c0 e-(c0+m))).toList).toArray e)) (H':=held A μ') (μ':=μ') (o:=0) (us:=olds++news++(Builtin.zeroCells C.cells (grownCap w (c0+m) c0 e-(c0+m))).toList) dw mf
    (λi j s v b8 hs q=>by have hj:j<d.size:=Gk;have b6:=LO b8 hj;have fj:=(XI q).1 Fj;rw[L9]at fj;exact((V0 i j s v b8 hs fj).keep Keeps.drew).keep Z)
    (λi j s v b8 hs q=>by have hj:j<d.size:=G3;have b6:=LO b8 hj;have pn:(c0+i)*d.size=c0*d.size+i*d.size:=Ma _ _ _;have:=(XI q).2 Fj (by rw[me,jd];omega);rw[me,show 0+(c0+i)*d.size+j-c0*d.size=i*d.size+j from Dz]at this;exact((Q8 i j s v b8 hs this).keep Keeps.drew).keep Z)
   refine⟨_,_,rfl,gv,gw,.inl rfl,dg.1,.inr ⟨w.heap.size,0,_,Dz,rfl,Mt w.drew _,?_,λv q=> ?_,dg.2⟩⟩
   .simp only[Jf,me,jd,Ls,O7,m9,<-Ma];rw[show c0+m+(grownCap w (c0+m) c0 e-(c0+m))=grownCap w (c0+m) c0 e from Dz];exact C2
   .rcases K6.1 q with q|q
    .rcases K6.1 q with q|q
     .exact zr v q
     .exact zp v q
    .exact WV ge _ v q)
  refine⟨_,_,_,hr,.osl Eh,⟨o1,Fr.drew.trans (Fr.alloc _ Q),?_⟩,λj hj=>Ep⟩;exact Cu
def d43(E:Env)(own:List Blk)(ρ:Operand->Option SV)(d:Op):Option (Prop×SV×Blk):=match d with
 |.call {callee:=.builtin .append,args:=⟨[x,y]⟩,argTypes:=⟨[T,U]⟩}=>if T=U then(ρ x).bind λe=>(ρ y).bind λg=>match e with
  |.sl h n f c=>match UF E.P own T (.sl h n f c) g with
   |some (p,_,a,true)=>(a[own.length]?).map λb=>(p,.osl own.length,b)
   |_=>none
  |_=>none
  else none
 |_=>none
theorem d24{E:Env}{B0:Nat}{X A:Nat->Prop}{a:Act}{w:World}{μ:Mu}{own d:List Blk}(q:Own B0 X A w μ d)(t:∀(k:Nat) (bl:Blk),own[k]?=some bl->d[k]?=some bl)(u:B0<=w.heap.size)(v:μ own.length=none)
 {ρ:Operand->Option SV} (i:∀(x:Operand) (s:SV),ρ x=some s->D w (held A μ) μ s (a.eval x)) {o:Oper} {l:Prop} {s:SV} {b:Blk} (e:d43 E own ρ o.op=some (l,s,b)) (z:l) (B:d[own.length]?=some b):
 ∃r m g,(execOp a.eval o).run E.P w=.ok (.value r) m/\After B0 X A w m μ g d/\(∀j,j≠own.length->g j=μ j)/\D m (held A g) g s r:=by
 unfold d43 at e;split at e;rotate_left
 .cases e
 rename_i x y T U C;split at e;rotate_left
 .cases e
 rename_i F;subst F;simp only[Js]at e;obtain⟨sx,G,sy,H,e⟩:=e;split at e;rotate_left
 .cases e
 rename_i sz n f c;split at e;rotate_left
 .cases e
 rename_i p0 k own' I;simp only[It]at e;obtain⟨b0,J,rfl,rfl,rfl⟩:=e;obtain⟨r,m,g,K,L,M,N⟩:=d2t (P:=E.P) (ty:=o.type) q t u v (i _ _ G) (i _ _ H) I z (λb h=>by rw[J]at h;cases h;exact B);refine⟨r,m,g,?_,M,N,L⟩;simp only[execOp,C,resolve,Iw,invoke,builtin];rw[show (⟨[x,y]⟩:Array Operand).map a.eval= #[a.eval x,a.eval y]from E2,K];simp
def FK(o:Oper)(j:Nat):Bool:=o.after.toList.any λe=>Region.binds .any e&&e.on==j
def b3r(ops:Array Oper):Nat->Option (Nat×Bool)->List Nat
 |0,_=>[]
 |_,none=>[]
 |n+1,some (j,_)=>match ops[j]? with
  |some o=>match o.dst with
   |some d=>d::b3r ops n o.guard
   |none=>b3r ops n o.guard
  |none=>[]
def OO(ops:Array Oper)(o:Oper):List Nat:=(o.op.operands.toList.filterMap λx=>match x with|.tmp t=>some t|_=>none)++b3r ops 6 o.guard
def SS(ks:List Nat)(o:Oper):Nat:=
 if o.after.toList.any λe=>Region.binds .any e&&ks.getD e.on 0==2 then 2 else match o.op with
 |.store _ _ _=>1
 |.call {callee:=.builtin .append,..}=>2
 |.mapUpdate _ _ _ _|.insert _ _ _ _=>2
 |.call {callee:=.builtin .delete,..}|.call {callee:=.builtin .copy,..}|.call {callee:=.builtin .clear,..}=>2
 |_=>0
def reach1(o:Oper)(a:List Nat):Nat:=o.after.toList.foldl (λm e=>if Region.binds .any e then m|||1 <<< e.on|||a.getD e.on 0 else m) 0
def c0e:List Oper->List Nat->List Nat
 | [],a=>a
 |o::l,a=>c0e l (a++[reach1 o a])
def d8f(ops:Array Oper):List Nat:=c0e ops.toList []
inductive Reach (ops:Array Oper):Nat->Nat->Prop
 |one {i j:Nat} {o:Oper} (h:ops[i]?=some o) (hw:FK o j=true):Reach ops i j
 |more {i j k:Nat} {o:Oper} (h:ops[i]?=some o) (hw:FK o k=true) (hr:Reach ops k j):Reach ops i j
theorem c5y(l:List Edge)(b:List Nat):∀(m j:Nat),(l.foldl (λm e=>if Region.binds .any e then m|||1 <<< e.on|||b.getD e.on 0 else m) m).testBit j=true->m.testBit j=true\/∃e∈l,Region.binds .any e=true/\(e.on=j\/(b.getD e.on 0).testBit j=true):=by
 induction l with
 |nil=>intro m j h;exact .inl h
 |cons e l c=>
  intro m j h;simp only[Mk]at h;rcases c _ j h with h|⟨d,f,a⟩
  .split at h
   .rename_i a;simp only[Nat.testBit_or,Kp]at h;rcases h with(h|h)|h
    .exact .inl h
    .refine .inr ⟨e,E2,a,.inl ?_⟩;rw[Nat.testBit_shiftLeft]at h;simp only[J3]at h;have:=h.2;match hk:j-e.on with
     |0=>omega
     |n+1=>
      rw[hk,Nat.testBit_succ]at this;simp at this
    .exact .inr ⟨e,E2,a,.inr h⟩
   .exact .inl h
  .exact .inr ⟨d,by simp[f],a⟩
theorem c2j(ops:Array Oper):∀(l:List Oper) (a:List Nat),(∀k,l[k]?=ops[a.length+k]?)->(∀i j,i<a.length->(a.getD i 0).testBit j=true->Reach ops i j)->∀i j,((c0e l a).getD i 0).testBit j=true->Reach ops i j:=by
 intro l;induction l with
 |nil=>
  intro a _ h i j b;by_cases d:i<a.length
  .exact h i j d b
  .rw[c0e,Jg,Ly Dz]at b;simp at b
 |cons o l q=>
  intro a f h;refine q _ (λk=> ?_) (λi j d b=> ?_)
  .have:=f (k+1);simp only[M0]at this;rw[this,K8];congr 1;simp only[Kz,N7];omega
  .by_cases g:i<a.length
   .rw[Jg,Jt g,<-Jg]at b;exact h i j g b
   .have r:i=a.length:=by simp at d;omega
    subst r;rw[Jg,Jy (Jp _)]at b;simp only[L3,Nb,L5]at b;have m:ops[a.length]?=some o:=by have:=f 0;simpa using this.symm
    rcases c5y _ _ _ _ b with s|⟨e,t,u,c⟩
    .simp at s
    .have n:FK o e.on=true:=by
      simp only[FK,K1,Jb];exact⟨e,t,u,rfl⟩
     rcases c with rfl|c
     .exact .one m n
     .by_cases v:e.on<a.length
      .exact .more m n (h _ _ v c)
      .rw[Jg,Ly Dz]at c;simp at c
theorem b0x{ops:Array Oper}{i j:Nat}(h:((d8f ops).getD i 0).testBit j=true):Reach ops i j:=
 c2j ops ops.toList [] (λk=>E2) (λi j a=>by simp at a) i j h
def b2u(ks:List Nat)(o:Oper):Nat:=
 if SS ks o==2 then 2 else match o.op with
 |.call {callee:=.value _,..}=>2
 |_=>SS ks o
def d8k(o:Oper):Bool:=match o.op with
 |.call {callee:=.value (.tmp _),..}=>true
 |_=>false
def b33(ks:List Nat)(o:Oper):Nat:=
 if SS ks o==2 then 2 else match d8k o with
 |true=>1
 |false=>if o.after.toList.any λe=>Region.binds .any e&&ks.getD e.on 0==1 then(match o.op with
  |.store _ _ _=>1
  |_=>2)else SS ks o
def f6a(ops:Array Oper)(o:Oper):Bool:=match o.op with
 |.call {callee:=.builtin .append,args:=⟨.tmp t::_⟩,..}=>ops.toList.any λy=>match y.op with
  |.buildSlice _ 0 _=>y.dst==some t
  |_=>false
 |_=>false
def b3f(ops:Array Oper)(ks:List Nat)(o:Oper):Nat:=
 if o.after.toList.any λe=>Region.binds .any e&&ks.getD e.on 0==2 then 2 else match f6a ops o with
 |true=>0
 |false=>SS ks o
def Qo(o:Oper):Option (Nat×Nat):=match o.op,o.guard,o.dst with
 |.move (.tmp s),none,some d=>some (s,d)
 |_,_,_=>none
def d4d(ops:Array Oper)(ks a:List Nat)(x:Oper×Nat):Bool:=match Qo x.1 with
 |some (s,d)=>ops.toList.zipIdx.all λy=>y.1.dst !=some s&&(!(OO ops y.1).contains d||(ks.getD y.2 0==2&&(a.getD y.2 0).testBit x.2))
 |none=>false
def f5w(ops:Array Oper)(ks:List Nat):List Nat:=match ks.all (λk=>k !=2)with
 |true=>ks
 |false=>let a:=d8f ops
  ops.toList.zipIdx.map λx=>if ks.getD x.2 0==0&&(ops.toList.zipIdx.any λy=>ks.getD y.2 0==2&& !(a.getD y.2 0).testBit x.2)&&d4d ops ks a x then 3 else ks.getD x.2 0
def d3g(ops:Array Oper)(ks:List Nat):Bool:=
 let l:=ops.toList.zipIdx
 let a:=d8f ops
 l.all (λx=>x.1.after.toList.all λe=> !Region.binds .any e||decide (e.on<x.2))&&
 SZ (l.filterMap λx=>x.1.dst)&&
 l.all (λx=>ks.getD x.2 0==2||(OO ops x.1).all λt=>l.all λy=>y.2==x.2||y.1.dst !=some t||(if y.2<x.2&&ks.getD y.2 0==0 then(a.getD x.2 0).testBit y.2 else(a.getD y.2 0).testBit x.2))&&
 l.all (λx=>ks.getD x.2 0 !=1||((x.1.dst==none||d8k x.1)&&x.1.guard.isNone&&l.all λy=> !(decide (y.2<x.2)&&ks.getD y.2 0==1)||FK x.1 y.2))&&
 l.all (λx=>match x.1.guard with|some (j,_)=>FK x.1 j|none=>true)&&
 l.all (λx=>ks.getD x.2 0 !=2||l.all λy=>y.2==x.2||(ks.getD y.2 0==2&&decide (x.2<y.2))||ks.getD y.2 0==3||(a.getD x.2 0).testBit y.2)&&
 l.all (λx=>ks.getD x.2 0 !=3||d4d ops ks a x)
def d89(b:Nat)(ops:Array Oper):List Nat:=ops.toList.foldl (λa o=>a++[match b with|0=>SS a o|1=>b2u a o|2=>b33 a o|_=>b3f ops a o]) []
def kinds(b:Nat)(ops:Array Oper):List Nat:=f5w ops (d89 b ops)
def Un(b:Nat)(ops:Array Oper):Bool:=d3g ops (kinds b ops)
def JJ(b:Nat)(ops:Array Oper)(k:Nat):List (Oper×Nat):=ops.toList.zipIdx.filter λx=>(kinds b ops).getD x.2 0==k
def TK(b:Nat)(ops:Array Oper):List ((Oper×Nat)×List (Oper×Nat)):=(JJ b ops 2).map λx=>(x,(JJ b ops 3).filter λf=>match f.1.dst with|some d=>(OO ops x.1).contains d|none=>false)
def MX(b:Nat)(ops:Array Oper):List Nat:=(JJ b ops 3).filterMap (·.1.dst)
def OI(a:List Nat)(ρ:List Entry):List Entry:=ρ.filter λe=>a.contains e.slot
def SV.pureA:SV->Bool
 |.agg a=>a.all SV.pure
 |s=>s.pure
theorem d27{w:World}{H H':Nat->Prop}{μ μ':Mu}(c:∀b,H' b->H b){s:SV}{v:Value}(h:D w H μ s v)(a:s.pureA=true):D w H' μ' s v:=by
 unfold SV.pureA at a;split at a
 .cases h with
  |agg d e f=>exact .agg d e λi s v hs g=>GW c (f i s v hs g) (Jr.1 a s (Jn hs))
 .exact GW c h a
def bornB(E:Env)(o:Oper):Bool:=match o.op with
 |.buildSlice _ _ _=>match o.dst with
  |some d=>E.fz d
  |none=>false
 |_=>false
def opdP(ρ:Operand->Option SV)(x:Operand):Option SV:=(ρ x).bind λs=>if s.pureA=true then some s else none
def c8f(P:Program)(ρ:Operand->Option SV)(a:Op):Option (Prop×SV):=match Xj P [] (opdP ρ) a with
 |some (p,_,.row _ b n f c)=>some (p,.sl b n f c)
 |_=>none
theorem b8q{E:Env}{B0:Nat}{X A:Nat->Prop}{a:Act}{w:World}{μ:Mu}{own:List Blk}(u:Own B0 X A w μ own){ρ:Operand->Option SV}(m:∀(x:Operand) (s:SV),ρ x=some s->D w (held A μ) μ s (a.eval x)){o:Oper}{i:Prop}{s:SV}
 (l:c8f E.P ρ o.op=some (i,s)) (v:i):∃r j,(execOp a.eval o).run E.P w=.ok (.value r) j/\Fr w.heap.size (λ_=>False) w j/\D j (held A μ) μ s r:=by
 unfold c8f at l;split at l;rotate_left
 .cases l
 rename_i p y T B n f c d;cases l;have C:Own w.heap.size (λ_=>False) (held A μ) w (λ_=>none) [.row T B n f c]:=by
  refine⟨λk x h=>E9,λk k' x x' b h=>E9,λk x b h=>E9,λb e=> ?_⟩;rcases e with e|⟨k,x,g,hx⟩
  .exact u.bnd b e
  .exact(u.rng k x b g hx).1
 obtain⟨r,j,μ',F,q,h3,G⟩:=b7a (E:=E) (own:=[]) C (Jp _) rfl (ρ:=opdP ρ) (λx s hs=>by
  unfold opdP at hs;simp only[Js]at hs;obtain⟨s1,H,t⟩:=hs;split at t
  .rename_i I;cases t;refine d27 (λb e=> ?_) (m x _ H) I;rcases e with e|⟨k,x,g,_⟩
   .exact e
   .cases g
  .cases t) d v rfl
 refine⟨r,j,F,q.fr,?_⟩;have J:∃k,y=.osl k/\k=0:=by
  unfold Xj at d;split at d<;>(try simp only[Js,Jq]at d)
  .obtain⟨z,_,d⟩:=d;split at d<;>cases d
  .obtain⟨_,_,_,_,d⟩:=d;split at d<;>cases d
  .obtain⟨_,_,_,_,d⟩:=d;cases d;exact⟨0,rfl,rfl⟩
  .obtain⟨_,_,_,_,_,_,_,_,d⟩:=d;split at d<;>cases d
   exact⟨0,rfl,rfl⟩
  .obtain⟨_,_,_,_,_,_,d⟩:=d;split at d
   .split at d<;>cases d
    exact⟨0,rfl,rfl⟩
   .cases d
  .cases d
 obtain⟨k,rfl,rfl⟩:=J;cases G with
 |osl g=>
  obtain⟨bl,e,K⟩:=q.own.blk 0 _ g;cases e;exact c7e (λb e=>.inl e) (λb e=>(q.own.rng 0 _ b g e).2.1) K
def RP(E:Env)(nt:Nat)(ops:Array Oper)(ρ:List Entry)(own:List Blk)(o:Oper):Option (Prop×Option Entry×Option Blk):=
 if !KM nt o.dst then none else
 match o.guard with
 |some (j,p)=>match o.dst,(ops[j]?).bind (·.dst)with
  |some d,some g=>if g<nt/\g≠d then(Xk ρ 5 g p).bind λc=>match bornB E o with
   |true=>(c8f E.P (CP E ρ (some (g,p))) o.op).map λr=>(c->r.1,some ⟨d,some (g,p),r.2⟩,none)
   |false=>(SN E ⟨ρ,own⟩ (some (g,p)) o.op).map λr=>(c->r.1,some ⟨d,some (g,p),r.2⟩,none)
   else none
  |_,_=>none
 |none=>match bornB E o with
  |true=>(c8f E.P (CP E ρ none) o.op).map λr=>(r.1,o.dst.map (λd=>⟨d,none,r.2⟩),none)
  |false=>match o.op with
   |.store _ _ _=>none
   |.alloc _|.box _ _|.buildSlice _ _ _|.makeSlice _ _ _=>(Xj E.P own (CP E ρ none) o.op).map λr=>(r.1,o.dst.map (λd=>⟨d,none,r.2.1⟩),some r.2.2)
   |.makeMap T r=>(d0i E (CP E ρ none) T r).map λb=>(True,o.dst.map (λd=>⟨d,none,.omp own.length⟩),some b)
   |a=>match d8x E own (CP E ρ none) a with
    |some r=>some (r.1,o.dst.map (λd=>⟨d,none,r.2.1⟩),some r.2.2)
    |none=>match d43 E own (CP E ρ none) a with
     |some r=>some (r.1,o.dst.map (λd=>⟨d,none,r.2.1⟩),some r.2.2)
     |none=>(SN E ⟨ρ,own⟩ none a).map λr=>(r.1,o.dst.map (λd=>⟨d,none,r.2⟩),none)
def Pj(w:World)(H:Nat->Prop)(μ:Mu)(tmps:Array Value):Option Entry->Prop
 |none=>True
 |some e=>DE w H μ tmps e
section
variable{E:Env}{B0:Nat}{X A:Nat->Prop}{nt:Nat}{a:Act}{w:World}{μ:Mu}
theorem c54(hE:EnvOK E)(hC:HF E){ρ:List Entry}{own y:List Blk}(F:Own B0 X A w μ y)(S:B0<=w.heap.size)(bf:∀(k:Nat) (bl:Blk),own[k]?=some bl->y[k]?=some bl)(G:∀g s,E.glob g=some s->s.pure=true/\D w (held A μ) μ s (.pointer (some ⟨g,0,none⟩)))
 (C:El w (held A μ) μ a.tmps ρ) (bq:a.tmps.size=nt) {ops:Array Oper} {o:Oper} {U:Prop} {out:Option Entry} {bl:Option Blk} (m:RP E nt ops ρ own o=some (U,out,bl)) (I:U)
 (W:∀b,bl=some b->μ own.length=none/\y[own.length]?=some b) {K:Act->World->Prop} {Q:Exit->Act->World->Prop}
 (hK:∀v t l,After B0 X A w t μ l y->(∀j,(bl.isSome=true->j≠own.length)->l j=μ j)->Pj t (held A l) l (a.put o.dst v).tmps out->K (a.put o.dst v) t):
 (out.map (·.slot)=o.dst\/out=none/\o.dst=none)/\if Region.wanted o (yielded ops a.tmps)then o.wp E.P a w K Q else K (a.put o.dst undef) w:=by
 unfold RP at m;split at m
 .cases m
 rename_i gn;have hd:KM nt o.dst=true:=by simpa using gn
 have calls:∀{t:World},Fr w.heap.size (λ_=>False) w t->After B0 X A w t μ μ y:=λz=>
  ⟨F.calls z,⟨z.os,z.tape,z.output,z.drawn,z.size,λi hi _=>z.block i (Kf hi S) (λh=>h)⟩,z.keeps⟩
 split at m
 .rename_i j p mz;split at m;rotate_left
  .cases m
  rename_i d g J V7;split at m;rotate_left
  .cases m
  rename_i b6;obtain⟨b6,b9⟩:=b6;simp only[Js]at m;obtain⟨c,Y,m⟩:=m;have R:d<a.tmps.size:=by rw[bq];simpa[KM,J]using hd
  have hw:=b8i (a:=a) mz V7 (by rw[bq];exact b6);have no:∀s,¬a.tmps.getD g undef=.bool p->Pj w (held A μ) μ (a.put o.dst undef).tmps (some ⟨d,some (g,p),s⟩):=λs hb=>by rw[J];unfold Pj DE Act.put;simp only;rw[NX R,NX R,Ji rfl,Jj b9];exact⟨λhh=>absurd hh hb,λ_=>rfl⟩
  have V:∀{s:SV} {v:Value} {t:World},a.tmps.getD g undef=.bool p->D t (held A μ) μ s v->Pj t (held A μ) μ (a.put o.dst v).tmps (some ⟨d,some (g,p),s⟩):=λhb x=>by rw[J];unfold Pj DE Act.put;simp only;rw[NX R,NX R,Ji rfl,Jj b9];exact⟨λ_=>x,λu=>absurd hb u⟩
  split at m
  .simp only[It]at m;obtain⟨⟨Z,s⟩,hs,rfl,rfl,rfl⟩:=m;refine⟨.inl (by simp[J]),?_⟩;split
   .rename_i f9;have hb:=hw.1 f9;have gq:=b0c C 5 g p c Y hb;obtain⟨r,t,H,z,x⟩:=b8q (E:=E) F (Re (λn s u=>(G n s u).2) C (λq b e=>by cases e;exact hb)) hs (I gq);unfold Oper.wp;rw[H];exact hK r t μ (calls z) (λ_ _=>rfl) (V hb x)
   .rename_i f9;exact Dj
  simp only[It]at m;obtain⟨⟨Z,s⟩,hs,rfl,rfl,rfl⟩:=m;refine⟨.inl (by simp[J]),?_⟩;split
  .rename_i f9;have hb:=hw.1 f9;have gq:=b0c C 5 g p c Y hb;exact b21 hE hC F bf G C (g:=some (g,p)) (λq b e=>by cases e;exact hb) hs (I gq) (λv t x z=>hK v t μ (calls z) (λ_ _=>rfl) (V hb x))
  .rename_i f9;exact Dj
 .rename_i mz;rw[Ji Ez];have put:∀{t:World} {l:Mu} {s:SV} {v:Value},D t (held A l) l s v->Pj t (held A l) l (a.put o.dst v).tmps (o.dst.map λd=>⟨d,none,s⟩):=by
   intro t l s v x;cases J:o.dst with
   |none=>exact Jm
   |some d=>
    have R:d<a.tmps.size:=by rw[bq];simpa[KM,J]using hd
    simp only[Ks];unfold Pj DE Act.put;simp only;rw[NX R,Ji rfl];exact x
  have slot:∀s:SV,((o.dst.map λd=>(⟨d,none,s⟩:Entry)).map (·.slot)=o.dst\/(o.dst.map λd=>(⟨d,none,s⟩:Entry))=none/\o.dst=none):=by intro s;cases o.dst<;>simp
  split at m
  .simp only[It]at m;obtain⟨⟨Z,s⟩,u,rfl,rfl,rfl⟩:=m;obtain⟨r,t,H,z,x⟩:=b8q (E:=E) F (Re (λn s u=>(G n s u).2) C (λq b e=>E8)) u I;refine⟨slot s,?_⟩;unfold Oper.wp;rw[H];exact hK r t μ (calls z) (λ_ _=>rfl) (put x)
  split at m
  .cases m
  iterate 4
   .simp only[It]at m;obtain⟨⟨Z,s,b⟩,u,rfl,rfl,rfl⟩:=m;obtain⟨L,M⟩:=W b rfl;obtain⟨r,t,l,H,N,B,x⟩:=b7a F S L (Re (λn s u=>(G n s u).2) C (λq b e=>E8)) u I M;refine⟨slot s,?_⟩;unfold Oper.wp;rw[H];exact hK r t l N (λj O=>B j (O rfl)) (put x)
  .rename_i T r0 da;simp only[It]at m;obtain⟨b,u,rfl,rfl,rfl⟩:=m;obtain⟨L,M⟩:=W b rfl;obtain⟨r,t,l,H,N,B,x⟩:=b1y hE F S L (Re (λn s u=>(G n s u).2) C (λq b e=>E8)) da u M;refine⟨slot _,?_⟩;unfold Oper.wp;rw[H];exact hK r t l N (λj O=>B j (O rfl)) (put x)
  .split at m
   .rename_i r u;simp only[Iv]at m;obtain⟨rfl,rfl,rfl⟩:=m;obtain⟨L,M⟩:=W _ rfl;obtain⟨f,vals,bt,Y⟩:=d1s hC F S L G (Re (λn s u=>(G n s u).2) C (λq b e=>E8)) u I M;refine⟨slot _,?_⟩;unfold Oper.wp;rw[bt];refine Y.mono ?_;rintro e t ⟨v,l,rfl,N,B,x⟩;exact hK v t l N (λj O=>B j (O rfl)) (put x)
   split at m
   .rename_i r u;simp only[Iv]at m;obtain⟨rfl,rfl,rfl⟩:=m;obtain⟨L,M⟩:=W _ rfl;obtain⟨v,t,l,H,N,B,x⟩:=d24 F bf S L (Re (λn s u=>(G n s u).2) C (λq b e=>E8)) u I M;refine⟨slot _,?_⟩;unfold Oper.wp;rw[H];exact hK v t l N (λj O=>B j (O rfl)) (put x)
   .simp only[It]at m;obtain⟨⟨Z,s⟩,hs,rfl,rfl,rfl⟩:=m;refine⟨slot s,?_⟩;exact b21 hE hC F bf G C (g:=none) (λq b e=>E8) hs I (λv t x z=>hK v t μ (calls z) (λ_ _=>rfl) (put x))
end
structure PI where
 o:Oper
 i:Nat
 own:List Blk
 out:Option Entry
 al:Option Blk
def PG(a:List Nat)(e:Entry):Entry:=match e.guard with
 |some (g,_)=>if a.contains g then {e with guard:=none,sv:=.any}else e
 |none=>e
def Qr(out:Option Entry)(a:List Entry):List Entry:=match out with
 |some e=>e::a
 |none=>a
def fO(o:Option Entry)(K:Option Entry->Prop):Prop:=match o with
 |none=>K none
 |some ⟨n,g,s⟩=>fG g λg=>s.f2 λs=>K (some ⟨n,g,s⟩)
theorem fO_eq(o:Option Entry)(K:Option Entry->Prop):fO o K=K o:=by
 match o with
 |none=>rfl
 |some ⟨n,g,s⟩=>simp only[fO,f21,SV.f2_eq]
def fA(own:List Blk)(c:Option Blk)(K:Option Blk->List Blk->Prop):Prop:=match c with
 |none=>K none own
 |some b=>fB (own++[b]) λa=>K (some b) a
theorem fA_eq(own:List Blk)(a:Option Blk)(K:Option Blk->List Blk->Prop):fA own a K=K a (own++a.toList):=by
 cases a
 .simp[fA]
 .simp[fA,WM]
def parK(E:Env)(d:Nat)(ops:Array Oper)(ρ0:List Entry)(K:List PI->List Entry->List Blk->Prop):List (Oper×Nat)->List PI->List Entry->List Blk->Prop
 | [],done,b,own=>K done b own
 |(o,i)::r,done,b,own=>match RP E d ops (OI (OO ops o) (b++ρ0)) own o with
  |some (p,out,c)=>LI p/\fO out λout=>fA own c λc a=>parK E d ops ρ0 K r (⟨o,i,own,out,c⟩::done) (Qr out b) a
  |none=>False
def VT(ps:List PI)(i:Nat):List Entry:=(ps.filter λq=>decide (q.i<i)).filterMap (·.out)
def Vt(E:Env)(a:Nat)(ops:Array Oper)(ρ0:List Entry)(ps:List PI)(sd:List Oper)(own:List Blk):List PI->Prop
 | []=>True
 |q::r=>if sd.any (λs=>FK s q.i)then Vt E a ops ρ0 ps sd own r else match RP E a ops (OI (OO ops q.o) (VT ps q.i++ρ0)) own q.o with
  |some (p,out,none)=>LI p/\RD out q.out/\Vt E a ops ρ0 ps sd own r
  |_=>False
def c8r(E:Env)(b nb:Nat)(ρ:List Entry)(own:List Blk)(o:Oper):Option (Prop×List Blk×Option Entry):=match o.op with
 |.store T p x=>(CP E ρ none p).bind λc=>(CP E ρ none x).bind λe=>(UX E.P own T c e).bind λr=>match o.dst with
  |none=>some (r.1,r.2,none)
  |some _=>none
 |_=>match b9m E own (CP E ρ none) o.op with
  |some (p,s,a,[])=>match Nat.beq own.length nb&&Nat.beq a.length nb&&KM b o.dst with
   |true=>some (p,a,o.dst.map λd=>⟨d,none,s⟩)
   |false=>none
  |_=>none
def c0v(E:Env)(b nb:Nat)(ops:Array Oper)(ρ0:List Entry)(ps:List PI)(K:List Entry->List Blk->Prop):List (Oper×Nat)->List Oper->List Entry->List Blk->Prop
 | [],_,c,own=>K c own
 |(o,i)::r,d,c,own=>match c8r E b nb (OI (OO ops o) (VT ps i++ρ0)) own o with
  |some (p,a,out)=>LI p/\fO out λout=>fB a λa=>Vt E b ops ρ0 ps (o::d) a ps/\c0v E b nb ops ρ0 ps K r (o::d) (Qr out c) a
  |none=>False
def Ra(a:List Nat)(ρ:List Entry):List Entry:=(ρ.filter λe=> !a.contains e.slot).map (PG a)
def SA(E:Env)(c:Nat)(b:Nat)(ops:Array Oper)(d:List Nat)(K:St->Prop):List ((Oper×Nat)×List (Oper×Nat))->St->Prop
 | [],a=>PE E b ops K ((JJ c ops 3).map (·.1)) a
 |g::r,a=>PE E b ops (λa=>St.force ⟨Ra d a.ρ,a.own⟩ (SA E c b ops d K r)) (g.2.map (·.1)++[g.1.1]) a
def f01(E:Env)(c:Nat)(a:Nat)(ops:Array Oper)(K:St->Prop)(st:St):Prop:=match MX c ops with
 | []=>PE E a ops K ((JJ c ops 2).map (·.1)) st
 |d::b=>St.force ⟨Ra (d::b) st.ρ,st.own⟩ (SA E c a ops (d::b) K (TK c ops))
def kb(c:Bool)(ops:Array Oper):Nat:=match c with
 |true=>match Un 1 ops with
  |true=>1
  |false=>match Un 2 ops with
   |true=>2
   |false=>0
 |false=>match ops.toList.any (f6a ops)with
  |true=>match Un 0 ops with
   |true=>0
   |false=>3
  |false=>0
def f0p(E:Env)(b:Nat)(ops:Array Oper)(K:St->Prop)(st:St):Prop:=QG (kb E.c2 ops) λc=>
 let a:=(st.ρ.filter λe=> !(MX c ops).contains e.slot).map (PG (ops.toList.filterMap (·.dst)))
 fE a λa=>parK E b ops a (λd f own=>c0v E b st.own.length ops a d (λg own=>f01 E c b ops K ⟨g++(f++a),own⟩) (JJ c ops 1) [] [] own) (JJ c ops 0) [] [] st.own
def TA(ps:List PI)(ρ0:List Entry)(i:Nat)(ρ:List Entry):Prop:=
 ∀t e,CO t ρ=some e->(∃q∈ps,q.i<i/\q.out=some e)\/(CO t ρ0=some e/\∀q∈ps,q.i<i->∀a,q.out=some a->a.slot≠t)
theorem b58{t:Nat}:∀(l r:List Entry),CO t (l++r)=match CO t l with|some e=>some e|none=>CO t r
 | [],r=>rfl
 |x::l,r=>by
  simp only[Lx,CO];split
  .rfl
  .exact b58 l r
theorem b31{t:Nat}:∀{l:List Entry},CO t l=none↔∀e∈l,e.slot≠t
 | []=>by simp[CO]
 |x::l=>by
  simp only[CO,Jv,forall_eq_or_imp];split
  .rename_i h;simp[h]
  .rename_i h;rw[b31];simp[h]
theorem OR{t:Nat}{e:Entry}:∀{l:List Entry},CO t l=some e->e∈l
 | [],h=>by simp[CO]at h
 |x::l,h=>by
  simp only[CO]at h;split at h
  .cases h;simp
  .exact Kd _ (OR h)
theorem b6f{ps:List PI}{ρ0 b:List Entry}{i:Nat}(d:∀e∈b,∃q∈ps,q.i<i/\q.out=some e)(f:∀q∈ps,q.i<i->∀e,q.out=some e->e∈b):TA ps ρ0 i (b++ρ0):=by
 intro t e a;rw[b58]at a;split at a
 .rename_i x hx;cases a;exact .inl (d _ (OR hx))
 .rename_i g;exact .inr ⟨a,λq h j c k=>b31.1 g c (f q h j c k)⟩
theorem b1v{ps:List PI}{ρ0:List Entry}{i:Nat}:TA ps ρ0 i (VT ps i++ρ0):=by
 refine b6f (λe a=> ?_) (λq b c e a=> ?_)
 .simp only[VT,Nh,Ki,Ju]at a;obtain⟨q,⟨b,c⟩,d⟩:=a;exact⟨q,b,c,d⟩
 .simp only[VT,Nh,Ki,Ju];exact⟨q,⟨b,c⟩,a⟩
structure ParOK (E:Env) (nt:Nat) (ops:Array Oper) (ρ0:List Entry) (base own0:List Blk) (ps:List PI):Prop where
 step:∀q∈ps,∃ρ p,TA ps ρ0 q.i ρ/\RP E nt ops (OI (OO ops q.o) ρ) q.own q.o=some (p,q.out,q.al)/\p
 sub:∀q∈ps,(∀(k:Nat) (bl:Blk),q.own[k]?=some bl->own0[k]?=some bl)/\∀b,q.al=some b->own0[q.own.length]?=some b
 low:∀q∈ps,base.length<=q.own.length
 one:∀q∈ps,∀q'∈ps,q.al.isSome=true->q'.al.isSome=true->q.own.length=q'.own.length->q.i=q'.i
 base:∀(k:Nat) (bl:Blk),base[k]?=some bl->own0[k]?=some bl
 top:∀q∈ps,q.al.isSome=true->q.own.length<own0.length
theorem g46{E:Env}{G:Nat}{ops:Array Oper}{ρ0:List Entry}{base:List Blk}{K:List PI->List Entry->List Blk->Prop}:∀(l:List (Oper×Nat)) (done:List PI) (m:List Entry) (own:List Blk),parK E G ops ρ0 K l done m own->
 ParOK E G ops ρ0 base own done->(∀e∈m,∃q∈done,q.out=some e)->(∀q∈done,∀e,q.out=some e->e∈m)->(∀q∈done,∀x∈l,q.i<x.2)->l.Pairwise (λx y=>x.2<y.2)->base.length<=own.length->(∀q∈done,∀d∈done,q.i=d.i->q=d)->
 ∃n s f,ParOK E G ops ρ0 base f n/\(∀e,e∈s↔∃q∈n,q.out=some e)/\K n s f/\(∀q,q∈n->q∈done\/(q.o,q.i)∈l)/\(∀x∈l,∃q∈n,q.o=x.1/\q.i=x.2)/\(∀q∈done,q∈n)/\base.length<=f.length/\∀q∈n,∀d∈n,q.i=d.i->q=d:=by
 intro l;induction l with
 |nil=>
  intro done m own h r F H _ _ v O;exact⟨done,m,own,r,λe=>⟨F e,λ⟨q,a,w⟩=>H q a e w⟩,h,λq a=>.inl a,λx hx=>by simp at hx,λq a=>a,v,O⟩
 |cons x l ih=>
  intro done m own h r F H W P v O;obtain⟨o,i⟩:=x;simp only[parK]at h;split at h;rotate_left
  .exact h.elim
  rename_i p out g hs;rw[fO_eq,fA_eq]at h;obtain⟨Q,h⟩:=h;replace Q:=Q.out;rw[Ku]at P;have I:∀q∈done,q.i<i:=λq a=>W q a (o,i) E2;have z:∀q∈done,∀A,TA done ρ0 q.i A->TA (⟨o,i,own,out,g⟩::done) ρ0 q.i A:=by
   intro q a A R t e c;rcases R t e c with⟨d,j,J,S⟩|⟨T,hn⟩
   .exact .inl ⟨d,Kd _ j,J,S⟩
   .refine .inr ⟨T,λd j J e' S=> ?_⟩;rcases Jv.1 j with rfl|j
    .have:=I q a;simp only at J;omega
    .exact hn d j J e' S
  have L:∀(k:Nat) (u:Blk),own[k]?=some u->(own++g.toList)[k]?=some u:=λk u B=>by rw[Jt (Jk.1 B).1];exact B
  have fu:TA (⟨o,i,own,out,g⟩::done) ρ0 i (m++ρ0):=by
   refine b6f (λe c=> ?_) (λq a hi e c=> ?_)
   .obtain⟨q,a,w⟩:=F e c;exact⟨q,Kd _ a,I q a,w⟩
   .rcases Jv.1 a with rfl|a
    .simp only at hi;omega
    .exact H q a e c
  have U:ParOK E G ops ρ0 base (own++g.toList) (⟨o,i,own,out,g⟩::done):=by
   refine⟨λq a=> ?_,λq a=> ?_,λq a=> ?_,λq a d j C X c=> ?_,λk u B=>L k u (r.base k u B),λq a C=> ?_⟩
   .rcases Jv.1 a with rfl|a
    .exact⟨m++ρ0,p,fu,hs,Q⟩
    .obtain⟨A,p',M,N,e3⟩:=r.step q a;exact⟨A,p',z q a A M,N,e3⟩
   .rcases Jv.1 a with rfl|a
    .refine⟨L,λb v=> ?_⟩;simp only at v;subst v;simp
    .obtain⟨s1,s2⟩:=r.sub q a;exact⟨λk u B=>L k u (s1 k u B),λb v=>L _ _ (s2 b v)⟩
   .rcases Jv.1 a with rfl|a
    .exact v
    .exact r.low q a
   .rcases Jv.1 a with rfl|a<;>rcases Jv.1 j with rfl|j
    .rfl
    .have:=r.top d j X;simp only at c;omega
    .have:=r.top q a C;simp only at c;omega
    .exact r.one q a d j C X c
   .rcases Jv.1 a with rfl|a
    .simp only at C⊢;cases g with
     |none=>simp at C
     |some b=>simp
    .have:=r.top q a C;rw[K8];omega
  have k1:∀e∈Qr out m,∃q∈(⟨o,i,own,out,g⟩:PI)::done,q.out=some e:=by
   intro e c;unfold Qr at c;split at c
   .rename_i e0;rcases Jv.1 c with rfl|c
    .exact⟨_,Mb,rfl⟩
    .obtain⟨q,a,w⟩:=F e c;exact⟨q,Kd _ a,w⟩
   .obtain⟨q,a,w⟩:=F e c;exact⟨q,Kd _ a,w⟩
  have k2:∀q∈(⟨o,i,own,out,g⟩:PI)::done,∀e,q.out=some e->e∈Qr out m:=by
   intro q a e c;unfold Qr;rcases Jv.1 a with rfl|a
   .simp only at c;subst c;simp
   .have:=H q a e c;split
    .exact Kd _ this
    .exact this
  have k3:∀q∈(⟨o,i,own,out,g⟩:PI)::done,∀x∈l,q.i<x.2:=by
   intro q a x hx;rcases Jv.1 a with rfl|a
   .exact P.1 x hx
   .exact W q a x (Kd _ hx)
  have k4:∀q∈(⟨o,i,own,out,g⟩:PI)::done,∀d∈(⟨o,i,own,out,g⟩:PI)::done,q.i=d.i->q=d:=by
   intro q a d j e;rcases Jv.1 a with M|Y<;>rcases Jv.1 j with N|Z
   .rw[M,N]
   .rw[M]at e;have:=I d Z;simp only at e;omega
   .rw[N]at e;have:=I q Y;simp only at e;omega
   .exact O q Y d Z e
  obtain⟨n,s,f,r1,r2,r3,r4,r5,r6,r7,r8⟩:=ih (⟨o,i,own,out,g⟩::done) (Qr out m) (own++g.toList) h U k1 k2 k3 P.2 (by rw[K8];omega) k4;refine⟨n,s,f,r1,r2,r3,λq a=> ?_,λx hx=> ?_,λq a=>r6 q (Kd _ a),r7,r8⟩
  .rcases r4 q a with V|T
   .rcases Jv.1 V with rfl|V
    .exact .inr Mb
    .exact .inl V
   .exact .inr (Kd _ T)
  .rcases Jv.1 hx with rfl|hx
   .exact⟨⟨o,i,own,out,g⟩,r6 _ Mb,rfl,rfl⟩
   .exact r5 x hx
structure Draws (b:Nat) (ops:Array Oper):Prop where
 lt:∀(i:Nat) (o:Oper) (j:Nat),ops[i]?=some o->FK o j=true->j<i
 uniq:∀(i:Nat) (o:Oper) (j:Nat) (o':Oper) (d:Nat),ops[i]?=some o->ops[j]?=some o'->o.dst=some d->o'.dst=some d->i=j
 names:∀(i:Nat) (o:Oper) (t j:Nat) (o':Oper),ops[i]?=some o->(kinds b ops).getD i 0≠2->t∈OO ops o->ops[j]?=some o'->j≠i->o'.dst=some t->if j<i/\(kinds b ops).getD j 0=0 then Reach ops i j else Reach ops j i
 store:∀(i:Nat) (o:Oper),ops[i]?=some o->(kinds b ops).getD i 0=1->o.guard=none/\∀(j:Nat) (o':Oper),ops[j]?=some o'->j<i->(kinds b ops).getD j 0=1->FK o j=true
 guard:∀(i:Nat) (o:Oper) (j:Nat) (p:Bool),ops[i]?=some o->o.guard=some (j,p)->FK o j=true
 last:∀(i:Nat) (o:Oper) (j:Nat) (o':Oper),ops[i]?=some o->(kinds b ops).getD i 0=2->ops[j]?=some o'->j≠i->¬((kinds b ops).getD j 0=2/\i<j)->(kinds b ops).getD j 0≠3->Reach ops i j
 free:∀(i:Nat) (o:Oper),ops[i]?=some o->(kinds b ops).getD i 0=3->∃s d,Qo o=some (s,d)/\∀(j:Nat) (o':Oper),ops[j]?=some o'->o'.dst≠some s/\(d∈OO ops o'->(kinds b ops).getD j 0=2/\Reach ops j i)
theorem Od{ops:Array Oper}{i:Nat}{o:Oper}(h:ops[i]?=some o):(o,i)∈ops.toList.zipIdx:=by rw[List.mk_mem_zipIdx_iff_getElem?];simpa using h
theorem g38{ops:Array Oper}{i:Nat}{o:Oper}(h:(o,i)∈ops.toList.zipIdx):ops[i]?=some o:=by rw[List.mk_mem_zipIdx_iff_getElem?]at h;simpa using h
theorem b7e:∀{l:List Nat},SZ l=true->l.Nodup
 | [],_=>Nt
 |x::r,h=>by simp only[SZ,Je,Ns,L8]at h;exact Lp.2 ⟨h.1,b7e h.2⟩
theorem b9a{l:List (Oper×Nat)}(e:l.Pairwise (λx y=>x.2≠y.2))(h:(l.filterMap λx=>x.1.dst).Nodup):∀x∈l,∀y∈l,∀d,x.1.dst=some d->y.1.dst=some d->x=y:=by
 induction l with
 |nil=>intro x hx;simp at hx
 |cons z l m=>
  rw[Ku]at e;have n:(l.filterMap λx=>x.1.dst).Nodup:=by
   rw[List.filterMap_cons]at h;split at h
   .exact h
   .exact(Lp.1 h).2
  have f:∀y∈l,∀d,z.1.dst=some d->y.1.dst=some d->False:=by intro y c d a b;rw[List.filterMap_cons,a]at h;exact(Lp.1 h).1 (Nh.2 ⟨y,c,b⟩)
  intro x hx y c d a b;rcases Jv.1 hx with g|i<;>rcases Jv.1 c with j|k
  .rw[g,j]
  .rw[g]at a;exact(f y k d a b).elim
  .rw[j]at b;exact(f x i d b a).elim
  .exact m e.2 n x i y k d a b
theorem c78(ops:Array Oper):ops.toList.zipIdx.Pairwise (λx y=>x.2<y.2):=by rw[Kx];intro i j hi hj fh;simp only[List.getElem_zipIdx];omega
theorem f1h{m:Nat}{ops:Array Oper}(h:Un m ops=true):Draws m ops:=by
 unfold Un d3g at h;simp only[Ke]at h;obtain⟨⟨⟨⟨⟨⟨u,C⟩,v⟩,w⟩,x⟩,y⟩,z⟩:=h;rw[Jr]at u v w y x z;refine⟨λi o j a A=> ?_,λi o j k d a b f E=> ?_,λi o t j k a c F b n f=> ?_,λi o a c=> ?_,λi o j p a q=> ?_,λi o j k a c b n G r=> ?_,λi o a c=> ?_⟩
 .have:=Jr.1 (u _ (Od a));simp only[FK,K1,Jb]at A;obtain⟨e,H,I,rfl⟩:=A;have:=this e H;rw[I]at this;simpa using this
 .have:=b9a ((c78 ops).imp λh=>Nat.ne_of_lt h) (b7e C) _ (Od a) _ (Od b) d f E;exact Mj Prod.snd this
 .have:=v _ (Od a);simp only[Kp,Mc]at this;rcases this with h|h
  .exact absurd h c
  .have:=Jr.1 (Jr.1 h t F) _ (Od b);simp only[Kp,Mc,bne_iff_ne,ne_eq]at this;rcases this with(h|h)|h
   .exact absurd h n
   .exact absurd f h
   .by_cases g:j<i/\(kinds m ops).getD j 0=0
    .rw[Ji g];rw[Ji ⟨by simpa using g.1,g.2⟩]at h;exact b0x h
    .rw[Jj g];rw[Jj (λB=>g ⟨by simpa using B.1,B.2⟩)]at h;exact b0x h
 .have:=w _ (Od a);simp only[Kp,bne_iff_ne,ne_eq,Jb,Option.isNone_iff_eq_none]at this;rcases this with h|⟨⟨_,q⟩,hs⟩
  .exact absurd c h
  .refine⟨q,λj k b J K=> ?_⟩;have:=Jr.1 hs _ (Od b);rw[Kp]at this;rcases this with h|h
   .exfalso;rw[K3 J,K]at h;simp at h
   .exact h
 .have:=x _ (Od a);simp only[q]at this;exact this
 .have:=y _ (Od a);simp only[Kp,bne_iff_ne,ne_eq]at this;rcases this with h|h
  .exact absurd c h
  .have:=Jr.1 h _ (Od b);simp only[Kp,Mc,J3]at this;rcases this with((h|h)|h)|h
   .exact absurd h n
   .exact absurd h G
   .exact absurd h r
   .exact b0x h
 .have:=z _ (Od a);simp only[Kp,bne_iff_ne,ne_eq]at this;rcases this with h|h
  .exact absurd c h
  .unfold d4d at h;split at h
   .rename_i s d L;refine⟨s,d,L,λj k b=> ?_⟩;have:=Jr.1 h _ (Od b);simp only[Jb,bne_iff_ne,ne_eq,Kp,N8,Ns,L8]at this;refine⟨this.1,λf=> ?_⟩;rcases this.2 with l|l
    .exact absurd f l
    .exact⟨l.1,b0x l.2⟩
   .cases h
theorem PJ{c:Nat}{ops:Array Oper}{k i:Nat}{o:Oper}:(o,i)∈JJ c ops k↔ops[i]?=some o/\(kinds c ops).getD i 0=k:=by unfold JJ;rw[Ki];simp only[Mc];exact⟨λ⟨a,b⟩=>⟨g38 a,b⟩,λ⟨a,b⟩=>⟨Od a,b⟩⟩
theorem QM{o:Oper}{s d:Nat}(h:Qo o=some (s,d)):o.dst=some d:=by
 unfold Qo at h;split at h
 .cases h;assumption
 .cases h
theorem c29{o:Oper}{s d:Nat}(h:Qo o=some (s,d)):o.op=.move (.tmp s)/\o.guard=none:=by
 unfold Qo at h;split at h
 .cases h;exact⟨E5,E5⟩
 .cases h
theorem Sn{c:Nat}{ops:Array Oper}{d:Nat}:d∈MX c ops↔∃i o,ops[i]?=some o/\(kinds c ops).getD i 0=3/\o.dst=some d:=by
 unfold MX;rw[Nh];constructor
 .rintro⟨⟨o,i⟩,a,b⟩;obtain⟨e,f⟩:=PJ.1 a;exact⟨i,o,e,f,b⟩
 .rintro⟨i,o,a,b,g⟩;exact⟨(o,i),PJ.2 ⟨a,b⟩,g⟩
theorem b23(a:Nat)(ops:Array Oper)(k:Nat):(JJ a ops k).Pairwise (λx y=>x.2<y.2):=(c78 ops).filter _
theorem b05{c:List Nat}{t:Nat}{e:Entry}:∀{ρ:List Entry},CO t (OI c ρ)=some e->t∈c/\CO t ρ=some e
 | [],h=>by simp[OI,CO]at h
 |x::r,h=>by
  simp only[OI,List.filter_cons]at h;split at h
  .rename_i a;simp only[CO]at h⊢;split at h
   .rename_i hs;cases h;exact⟨by rw[<-hs];simpa using a,by rw[Ji hs]⟩
   .rename_i hs;obtain⟨h1,b⟩:=b05 (ρ:=r) h;exact⟨h1,by rw[Jj hs];exact b⟩
  .rename_i a;obtain⟨h1,b⟩:=b05 (ρ:=r) h;refine⟨h1,?_⟩;simp only[CO];rw[Jj (λhs=>by subst hs;exact a Fn)];exact b
theorem UV{E:Env}{nt:Nat}{ops:Array Oper}{ρ:List Entry}{own:List Blk}{o:Oper}{p:Prop}{out:Option Entry}{l:Option Blk}(a:RP E nt ops ρ own o=some (p,out,l)):
 out.map (·.slot)=o.dst/\(∀e,out=some e->∀g b,e.guard=some (g,b)->∃j h,o.guard=some (j,h)/\(ops[j]?).bind (·.dst)=some g):=by
 have slot:∀s:SV,(o.dst.map λd=>(⟨d,none,s⟩:Entry)).map (·.slot)=o.dst:=by intro s;cases o.dst<;>simp
 have noguard:∀s:SV,∀e,(o.dst.map λd=>(⟨d,none,s⟩:Entry))=some e->∀g b,e.guard=some (g,b)->∃j h,o.guard=some (j,h)/\(ops[j]?).bind (·.dst)=some g:=by intro s e a g b i;rw[Jq]at a;obtain⟨d,_,rfl⟩:=a;cases i
 unfold RP at a;split at a
 .cases a
 split at a
 .rename_i j f m;split at a;rotate_left
  .cases a
  rename_i d g n q;split at a;rotate_left
  .cases a
  simp only[Js]at a;obtain⟨c,hc,a⟩:=a;split at a;all_goals
   simp only[It]at a;obtain⟨⟨p1,s⟩,hs,rfl,rfl,rfl⟩:=a;refine⟨by simp[n],λe a g' b i=> ?_⟩;cases a;cases i;exact⟨j,f,m,q⟩
 .split at a
  .simp only[It]at a;obtain⟨⟨f,s⟩,k,rfl,rfl,rfl⟩:=a;exact⟨slot s,noguard s⟩
  split at a
  .cases a
  iterate 4
   .simp only[It]at a;obtain⟨⟨f,s,b⟩,k,rfl,rfl,rfl⟩:=a;exact⟨slot s,noguard s⟩
  .simp only[It]at a;obtain⟨b,k,rfl,rfl,rfl⟩:=a;exact⟨slot _,noguard _⟩
  .split at a
   .simp only[Iv]at a;obtain⟨rfl,rfl,rfl⟩:=a;exact⟨slot _,noguard _⟩
   split at a
   .simp only[Iv]at a;obtain⟨rfl,rfl,rfl⟩:=a;exact⟨slot _,noguard _⟩
   .simp only[It]at a;obtain⟨⟨f,s⟩,hs,rfl,rfl,rfl⟩:=a;exact⟨slot s,noguard s⟩
theorem b17(a:List Nat)(e:Entry):(PG a e).slot=e.slot:=by unfold PG;split<;>(try split)<;>rfl
theorem b6j{E:Env}{nt:Nat}{ops:Array Oper}{ρ0:List Entry}{ps:List PI}{sd:List Oper}{own:List Blk}:∀{l:List PI},Vt E nt ops ρ0 ps sd own l->∀q∈l,(∃s∈sd,FK s q.i=true)\/
 ∃p,RP E nt ops (OI (OO ops q.o) (VT ps q.i++ρ0)) own q.o=some (p,q.out,none)/\p
 | [],_,q,a=>by simp at a
 |x::r,h,q,a=>by
  simp only[Vt]at h;split at h
  .rename_i b;rcases Jv.1 a with rfl|a
   .exact .inl (by simpa using b)
   .exact b6j h q a
  .split at h
   .rename_i p out hs;rcases Jv.1 a with rfl|a
    .exact .inr ⟨p,by rw[<-h.2.1.out];exact hs,h.1.out⟩
    .exact b6j h.2.2 q a
   .exact h.elim
theorem b7v{P:Program}{own own':List Blk}{T:TypeId}{p x:SV}{b:Prop}(a:UX P own T p x=some (b,own')):own'.length=own.length:=by
 unfold UX at a;simp only[J7]at a;obtain⟨n,hn,us,mh,a⟩:=a;repeat' split at a
 all_goals first|(cases a;simp;done)|cases a
section
variable{E:Env}{B0:Nat}{X A:Nat->Prop}{w0:World}{nt:Nat}{ops:Array Oper}{st:St}{a0:Act}{ρ0:List Entry}{ps:List PI}{es:List Entry}{own0:List Blk}{K:St->Prop}
def Ld(listed:Array Bool)(i:Nat):Prop:=listed.getD i true=true
structure Inv1 (E:Env) (B0:Nat) (X A:Nat->Prop) (w0:World) (nt:Nat) (ops:Array Oper) (st:St) (a0:Act) (ρ0:List Entry) (ps:List PI) (es:List Entry) (own0:List Blk) (K:St->Prop)
 (listed:Array Bool) (a:Act) (w:World) (μ:Mu) (sd:List Oper) (xs:List Entry) (sr:List (Oper×Nat)) (om:List Blk):Prop where
 own:Own B0 X A w μ om
 len:om.length=own0.length
 fr:Fr B0 X w0 w
 base:B0<=w.heap.size
 glo:∀g s,E.glob g=some s->s.pure=true/\D w (held A μ) μ s (.pointer (some ⟨g,0,none⟩))
 dfr:a.defers=[]
 size:a.tmps.size=nt
 sk:c0v E nt st.own.length ops ρ0 ps (λxs own=>f01 E (kb E.c2 ops) nt ops K ⟨xs++(es++ρ0),own⟩) sr sd xs om
 late:om=own0\/Vt E nt ops ρ0 ps sd om ps
 sdL:∀s∈sd,∃i,ops[i]?=some s/\(kinds (kb E.c2 ops) ops).getD i 0=1/\Ld listed i
 xsE:∀e∈xs,e.guard=none/\DE w (held A μ) μ a.tmps e/\∃s∈sd,s.dst=some e.slot
 xsA:∀s∈sd,∀d,s.dst=some d->∃e∈xs,e.slot=d
 srU:∀x∈sr,ops[x.2]?=some x.1/\(kinds (kb E.c2 ops) ops).getD x.2 0=1/\¬Ld listed x.2
 srA:∀(i:Nat) (o:Oper),ops[i]?=some o->(kinds (kb E.c2 ops) ops).getD i 0=1->¬Ld listed i->(o,i)∈sr
 srP:sr.Pairwise (λx y=>x.2<y.2)
 ent:∀q∈ps,Ld listed q.i->Pj w (held A μ) μ a.tmps q.out
 tmp:∀t,(∀q∈ps,Ld listed q.i->q.o.dst≠some t)->t∉MX (kb E.c2 ops) ops->(∀s∈sd,s.dst≠some t)->a.tmps.getD t undef=a0.tmps.getD t undef
 frd:∀(i:Nat) (o:Oper) (s d:Nat),ops[i]?=some o->(kinds (kb E.c2 ops) ops).getD i 0=3->Qo o=some (s,d)->Ld listed i->d<nt->a.tmps.getD d undef=a0.tmps.getD s undef
 fresh:∀k,st.own.length<=k->(∀q∈ps,Ld listed q.i->q.al.isSome=true->q.own.length≠k)->μ k=none
 env0:El w (held A μ) μ a0.tmps ρ0
 closed:∀(i:Nat) (o:Oper) (j:Nat),ops[i]?=some o->Ld listed i->FK o j=true->Ld listed j
 anc:∀k x,E.an k=some x->μ k=some x
 no2:∀(i:Nat) (o:Oper),ops[i]?=some o->(kinds (kb E.c2 ops) ops).getD i 0=2->¬Ld listed i
theorem b15{ops:Array Oper}{listed:Array Bool}(c:∀(i:Nat) (o:Oper) (j:Nat),ops[i]?=some o->Ld listed i->FK o j=true->Ld listed j){i j:Nat}(h:Reach ops i j):Ld listed i->Ld listed j:=by
 induction h with
 |one h a=>exact λb=>c _ _ _ h b a
 |more h a _ d=>exact λb=>d (c _ _ _ h b a)
theorem b0f{ops:Array Oper}{listed:Array Bool}(d:∀(i:Nat) (o:Oper) (j:Nat),ops[i]?=some o->Ld listed i->FK o j=true->Ld listed j){i j:Nat}(h:Reach ops i j){o:Oper}(a:ops[i]?=some o)(c:∀j,FK o j=true->Ld listed j):Ld listed j:=by
 cases h with
 |one h b=>rw[h]at a;cases a;exact c _ b
 |more h b e=>rw[h]at a;cases a;exact b15 d e (c _ b)
structure Fixed (E:Env) (nt:Nat) (ops:Array Oper) (st:St) (ρ0:List Entry) (ps:List PI) (es:List Entry) (own0:List Blk):Prop where
 dr:Draws (kb E.c2 ops) ops
 par:ParOK E nt ops ρ0 st.own own0 ps
 pin:∀q∈ps,ops[q.i]?=some q.o/\(kinds (kb E.c2 ops) ops).getD q.i 0=0
 pall:∀(i:Nat) (o:Oper),ops[i]?=some o->(kinds (kb E.c2 ops) ops).getD i 0=0->∃q∈ps,q.o=o/\q.i=i
 es:∀e,e∈es↔∃q∈ps,q.out=some e
 fno:∀e∈ρ0,e.slot∉MX (kb E.c2 ops) ops
 gno:∀e∈ρ0,∀g b,e.guard=some (g,b)->∀(i:Nat) (o:Oper),ops[i]?=some o->o.dst≠some g
 top:st.own.length<=own0.length
 uni:∀q∈ps,∀q'∈ps,q.i=q'.i->q=q'
variable{listed:Array Bool}{a:Act}{w:World}{μ:Mu}{sd:List Oper}{xs:List Entry}{sr:List (Oper × Nat)}{om:List Blk}
theorem f6e(c:Fixed E nt ops st ρ0 ps es own0)(h:Inv1 E B0 X A w0 nt ops st a0 ρ0 ps es own0 K listed a w μ sd xs sr om){i:Nat}{o:Oper}(u:ops[i]?=some o)(B:(kinds (kb E.c2 ops) ops).getD i 0≠2)(_:(kinds (kb E.c2 ops) ops).getD i 0≠3)(hi:¬Ld listed i)(V:∀j,FK o j=true->Ld listed j)
 {ρ:List Entry} (J:TA ps ρ0 i ρ):El w (held A μ) μ a.tmps (OI (OO ops o) ρ):=by
 intro t e C;obtain⟨F,C⟩:=b05 C;have S:=NK C;rcases J t e C with⟨q,k,G,T⟩|⟨H,W⟩
 .obtain⟨L,p,_,hs,_⟩:=c.par.step q k;have f:q.o.dst=some t:=by
   have:=(UV hs).1;rw[T]at this;rw[<-this];simp[S]
  obtain⟨n,v⟩:=c.pin q k;have:=c.dr.names i o t q.i q.o u B F n (Nat.ne_of_lt G) f;rw[Ji ⟨G,v⟩]at this;have:=h.ent q k (b0f h.closed this u V);rw[T]at this;exact this
 .have l:=h.env0 t e H;have m:∀x,(∀q∈ps,Ld listed q.i->q.o.dst≠some x)->x∉MX (kb E.c2 ops) ops->(∀s∈sd,s.dst≠some x)->a.tmps.getD x undef=a0.tmps.getD x undef:=h.tmp;have y:a.tmps.getD t undef=a0.tmps.getD t undef:=by
   refine m t (λq k z f=> ?_) (λM=>by
    obtain⟨j,N,O,U,P⟩:=Sn.1 M;obtain⟨s,d,f1,f2⟩:=c.dr.free j N O U;have f:d=t:=by have:=QM f1;rw[P]at this;exact(Km this).symm
    subst f;exact B ((f2 i o u).2 F).1) (λs hs f=>by
    obtain⟨j,Q,f8,z⟩:=h.sdL s hs;have I:j≠i:=λe=>hi (e▸z);have:=c.dr.names i o t j s u B F Q I f;rw[Jj Dz]at this;exact hi (b15 h.closed this z))
   obtain⟨n,v⟩:=c.pin q k;have I:q.i≠i:=λe=>hi (e▸z);rcases Nat.lt_or_gt_of_ne I with G|w8
   .obtain⟨L,p,_,hs,_⟩:=c.par.step q k;have R:=(UV hs).1;rw[f]at R;rw[Jq]at R;obtain⟨Y,Z,hs'⟩:=R;exact W q k G Y Z hs'
   .have:=c.dr.names i o t q.i q.o u B F n I f;rw[Jj Dz]at this;exact hi (b15 h.closed this z)
  unfold DE at l⊢;rw[S]at l⊢;split
  .rename_i r;rw[r]at l;simp only at l;rw[y];exact l
  .rename_i g b r;rw[r]at l;simp only at l;have sg:a.tmps.getD g undef=a0.tmps.getD g undef:=m g (λq k _ f=>c.gno e (OR H) g b r q.i q.o (c.pin q k).1 f) (λM=>by
    obtain⟨j,N,O,U,P⟩:=Sn.1 M;exact c.gno e (OR H) g b r j N O P) (λs hs f=>by
    obtain⟨j,Q,_,_⟩:=h.sdL s hs;exact c.gno e (OR H) g b r j s Q f)
   rw[y,sg];exact l
end
section
variable{E:Env}{B0:Nat}{X A:Nat->Prop}{w0:World}{nt:Nat}{ops:Array Oper}{st:St}{a0:Act}{ρ0:List Entry}{ps:List PI}{es:List Entry}{own0:List Blk}{K:St->Prop}
variable{listed:Array Bool}{a:Act}{w:World}{μ:Mu}{sd:List Oper}{xs:List Entry}{sr:List (Oper × Nat)}{om:List Blk}
theorem DS{i j:Nat}(hi:i<listed.size):Ld (listed.setIfInBounds i true) j↔j=i\/Ld listed j:=by
 unfold Ld;by_cases e:j=i
 .subst e;simp[hi]
 .simp[e,Mf (Ne.symm e)]
theorem DE.keep{w w':World}{H H':Nat->Prop}{μ μ':Mu}{tmps:Array Value}{e:Entry}(a:Keeps w w' H H' μ μ')(h:DE w H μ tmps e):DE w' H' μ' tmps e:=by
 unfold DE at h⊢;split at h
 .exact h.keep a
 .exact⟨λb=>(h.1 b).keep a,h.2⟩
theorem Ps{d:Option Nat}{v:Value}{t:Nat}(h:d≠some t):(a.put d v).tmps.getD t undef=a.tmps.getD t undef:=by
 cases d with
 |none=>rfl
 |some d=>
  have b:d≠t:=λe=>h (by rw[e]);simp[Act.put,Mf b]
theorem DE.put{H:Nat->Prop}{e:Entry}{d:Option Nat}{v:Value}(hs:d≠some e.slot)(c:∀g b,e.guard=some (g,b)->d≠some g)(h:DE w H μ a.tmps e):DE w H μ (a.put d v).tmps e:=by
 unfold DE at h⊢;split at h
 .rw[Ps hs];exact h
 .rename_i g b f;rw[Ps hs,Ps (c g b f)];exact h
theorem f0c(hE:EnvOK E)(hC:HF E)(c:Fixed E nt ops st ρ0 ps es own0)(h:Inv1 E B0 X A w0 nt ops st a0 ρ0 ps es own0 K listed a w μ sd xs sr om)(bq:listed.size=ops.size){i:Nat}{o:Oper}(ho:ops[i]?=some o)(hk:(kinds (kb E.c2 ops) ops).getD i 0=0)
 (hi:¬Ld listed i) (hr:∀j,FK o j=true->Ld listed j) {U:Act->World->Prop} {Q:Exit->Act->World->Prop}
 (hK:∀a' M G,Inv1 E B0 X A w0 nt ops st a0 ρ0 ps es own0 K (listed.setIfInBounds i true) a' M G sd xs sr om->U a' M):wpOp E.P ops Q i U a w:=by
 have bp:i<listed.size:=Fp;obtain⟨q,y,rfl,rfl⟩:=c.pall i o ho hk;have ev:∃J f N p,TA ps ρ0 q.i J/\RP E nt ops (OI (OO ops q.o) J) f q.o=some (p,q.out,N)/\p/\(∀(k:Nat) (b:Blk),f[k]?=some b->om[k]?=some b)/\(N=none\/f=q.own/\N=q.al/\om=own0):=by
  rcases h.late with e|hl
  .obtain⟨J,p,h1,V,W⟩:=c.par.step q y;exact⟨J,q.own,q.al,p,h1,V,W,by rw[e];exact(c.par.sub q y).1,.inr ⟨rfl,rfl,e⟩⟩
  .rcases b6j hl q y with⟨s,hs,hw⟩|⟨p,V,W⟩
   .obtain⟨j,hj,_,hL⟩:=h.sdL s hs;exact absurd (h.closed j s q.i hj hL hw) hi
   .exact⟨_,om,none,p,b1v,V,W,λ_ _ h=>h,.inl rfl⟩
 obtain⟨J,f,N,p,Y,hs,hp,bf,df⟩:=ev;have de:=f6e c h ho Dz Dz hi hr Y;have kw:=(UV hs).1;have m:=(c54 hE hC h.own h.base bf h.glo de h.size hs hp (λb C=>by
  rcases df with e|⟨rfl,rfl,rfl⟩
  .rw[e]at C;cases C
  .refine⟨h.fresh _ (c.par.low q y) (λn r hL u I=> ?_),(c.par.sub q y).2 b C⟩;have:=c.par.one n r q y u (by rw[C];rfl) I;exact hi (this▸hL)) (K:=U) (Q:=Q) (λv M G u Z f6=>hK _ M G ?_)).2
 .unfold wpOp;rw[ho];simp only;split
  .rename_i hw;rw[Ji hw]at m;exact .inl m
  .rename_i hw;rw[Jj hw]at m;exact m
 .have F:∀t,q.o.dst≠some t->(a.put q.o.dst v).tmps.getD t undef=a.tmps.getD t undef:=λt O=>Ps O;refine⟨u.own,h.len,h.fr.trans u.fr,Lr h.base u.fr.size,NW u.keeps h.glo,by cases q.o.dst<;>exact h.dfr,by cases q.o.dst<;>simp[Act.put,h.size],h.sk,h.late,λs hs=> ?_,λe I=> ?_,h.xsA,λx hx=> ?_,λj o' hj f8 R=> ?_,h.srP,
   λn r hL=> ?_,λt O hf z=> ?_,λj o' s d hj f8 jr hL H=> ?_,λk dh R=> ?_,h.env0.keep u.keeps,λj o' l hj hL hw=> ?_,λj x hx=>u.keeps.own _ _ (h.anc j x hx),λj o' hj f8 hL=> ?_⟩
  .obtain⟨j,hj,f8,hL⟩:=h.sdL s hs;exact Cx
  .obtain⟨e1,e2,s,hs,z⟩:=h.xsE e I;obtain⟨j,hj,f8,_⟩:=h.sdL s hs;refine⟨e1,(DE.keep u.keeps e2).put (λH=> ?_) (λg b S=>by rw[e1]at S;cases S),s,hs,z⟩;have:=c.dr.uniq _ _ _ _ _ ho hj H z;rw[this]at hk;omega
  .obtain⟨x1,x2,x3⟩:=h.srU x hx;refine⟨x1,x2,λhL=> ?_⟩;rcases(DS bp).1 hL with e|hL
   .rw[e]at x2;omega
   .exact x3 hL
  .exact h.srA j o' hj f8 (λhL=>R ((DS bp).2 (.inr hL)))
  .rcases(DS bp).1 hL with e|hL
   .rw[c.uni n r q y e];exact f6
   .have B:=h.ent n r hL;have T:n.i≠q.i:=λe=>hi (e▸hL);obtain⟨ρ',p',_,hs',_⟩:=c.par.step n r;obtain⟨L,sl2⟩:=UV hs';unfold Pj at B⊢;split
    .exact Jm
    .rename_i e I;rw[I]at B L;simp only at B;refine(DE.keep u.keeps B).put (λH=> ?_) (λg b S H=> ?_)
     .have:n.o.dst=some e.slot:=by rw[<-L];rfl
      exact T (c.dr.uniq _ _ _ _ _ (c.pin n r).1 ho this H)
     .obtain⟨j,p2,mz,hj⟩:=sl2 e I g b S;cases tn:ops[j]? with
      |none=>rw[tn]at hj;cases hj
      |some oj=>
       rw[tn]at hj;have X0:=c.dr.uniq _ _ _ _ _ tn ho hj H;have hw:=c.dr.guard _ _ _ _ (c.pin n r).1 mz;exact hi (X0▸h.closed _ _ _ (c.pin n r).1 hL hw)
  .rw[F t (O q y ((DS bp).2 (.inl rfl)))];exact h.tmp t (λn r hL=>O n r ((DS bp).2 (.inr hL))) hf z
  .have T:j≠q.i:=λe=>by rw[e]at f8;omega
   have sc:Ld listed j:=by
    rcases(DS bp).1 hL with e|hL
    .exact absurd e T
    .exact hL
   rw[F d (λfq=>T (c.dr.uniq _ _ _ _ _ hj ho (QM jr) fq))];exact h.frd j o' s d hj f8 jr sc H
  .rw[Z k (λC=> ?_)]
   .exact h.fresh k dh (λn r hL=>R n r ((DS bp).2 (.inr hL)))
   .rcases df with e|⟨rfl,rfl,_⟩
    .rw[e]at C;cases C
    .exact λe=>R q y ((DS bp).2 (.inl rfl)) C e.symm
  .rcases(DS bp).1 hL with e|hL
   .subst e;rw[ho]at hj;cases hj;exact(DS bp).2 (.inr (hr l hw))
   .exact Cy
  .rcases(DS bp).1 hL with e|hL
   .subst e;omega
   .exact h.no2 j o' hj f8 hL
theorem d23(hC:HF E)(z:Fixed E nt ops st ρ0 ps es own0)(h:Inv1 E B0 X A w0 nt ops st a0 ρ0 ps es own0 K listed a w μ sd xs sr om)(bq:listed.size=ops.size){i:Nat}{o:Oper}(ho:ops[i]?=some o)(J:(kinds (kb E.c2 ops) ops).getD i 0=1)
 (hi:¬Ld listed i) (hr:∀j,FK o j=true->Ld listed j) {Kc:Act->World->Prop} {Q:Exit->Act->World->Prop}
 (hK:∀a' m c sd' xs' sr' om',Inv1 E B0 X A w0 nt ops st a0 ρ0 ps es own0 K (listed.setIfInBounds i true) a' m c sd' xs' sr' om'->Kc a' m):wpOp E.P ops Q i Kc a w:=by
 have bp:i<listed.size:=Fp;obtain⟨L,cy⟩:=z.dr.store i o ho J;have cm:=h.srA i o ho J hi;have G:=h.sk;have M:=h.srP;have Z:=h.srU;have P4:=h.srA;match sr,cm,G,M,Z,P4 with
 |(o',i')::r,cm,G,M,Z,P4=>
  rw[Ku]at M;have tp:(o,i)=(o',i'):=by
   rcases Jv.1 cm with e|hm
   .exact e
   .exfalso;have b6:=M.1 _ hm;obtain⟨u1,u2,u3⟩:=Z (o',i') E2;exact u3 (hr i' (cy i' o' u1 b6 u2))
  cases tp;simp only[c0v]at G;split at G;rotate_left
  .exact G.elim
  rename_i p F out B;rw[fO_eq,WM]at G;obtain⟨hp,I,G⟩:=G;replace hp:=hp.out;have de:=f6e z h ho Dz Dz hi hr (b1v (ps:=ps) (ρ0:=ρ0) (i:=i));have next:∀(m:World) (c:Mu) (v:Value),Own B0 X A m c F->Fr B0 X w m->Keeps w m (held A μ) (held A c) μ c->(∀k,st.own.length<=k->(∀q∈ps,Ld listed q.i->q.al.isSome=true->q.own.length≠k)->c k=none)->(∀k x,E.an k=some x->c k=some x)->
   F.length=om.length->(out=none/\o.dst=none\/∃d s,o.dst=some d/\out=some ⟨d,none,s⟩/\KM nt o.dst=true/\D m (held A c) c s v)->
   Inv1 E B0 X A w0 nt ops st a0 ρ0 ps es own0 K (listed.setIfInBounds i true) (a.put o.dst v) m c (o::sd) (Qr out xs) r F:=by
   intro m c v n1 n2 n3 n4 n5 n6 n7;have j9:∀e,e∈xs->e∈Qr out xs:=λe u=>by
    unfold Qr;split
    .exact Kd _ u
    .exact u
   have R:∀{e:Entry},e∈xs->o.dst≠some e.slot:=λ{e} u f=>by obtain⟨_,_,s,hs,C⟩:=h.xsE e u;obtain⟨j,hj,_,hL⟩:=h.sdL s hs;exact hi (z.dr.uniq _ _ _ _ _ ho hj f C▸hL)
   refine⟨n1,n6.trans h.len,h.fr.trans n2,Lr h.base n2.size,NW n3 h.glo,by cases o.dst<;>exact h.dfr,by cases o.dst<;>simp[Act.put,h.size],G,.inr I,λs hs=> ?_,λe u=> ?_,λs hs d f=> ?_,λx hx=> ?_,λj o' hj f8 N=> ?_,M.2,
    λH O hL=> ?_,λt ht hf C=> ?_,λj o' s d hj f8 jr hL f=> ?_,λk dh N=>n4 k dh (λq S hL=>N q S ((DS bp).2 (.inr hL))),h.env0.keep n3,λj o' l hj hL hw=> ?_,n5,λj o' hj f8 hL=> ?_⟩
   .rcases Jv.1 hs with rfl|hs
    .exact⟨i,ho,J,(DS bp).2 (.inl rfl)⟩
    .obtain⟨j,hj,f8,hL⟩:=h.sdL s hs;exact Cx
   .have y:e∈xs->e.guard=none/\DE m (held A c) c (a.put o.dst v).tmps e/\∃s∈o::sd,s.dst=some e.slot:=λu=>by
     obtain⟨e1,e2,s,hs,C⟩:=h.xsE e u;exact⟨e1,(DE.keep n3 e2).put (R u) (λg b L=>by rw[e1]at L;cases L),s,Kd _ hs,C⟩
    rcases n7 with⟨rfl,_⟩|⟨d,s,f,rfl,hdo,hv⟩
    .exact y u
    .rcases Jv.1 u with rfl|u
     .refine⟨rfl,?_,o,Mb,f⟩;have b6:d<a.tmps.size:=by rw[h.size];simpa[KM,f]using hdo
      rw[f];unfold DE Act.put;simp only;rw[NX b6,Ji rfl];exact hv
     .exact y u
   .rcases Jv.1 hs with rfl|hs
    .rcases n7 with⟨_,h0⟩|⟨d',s',fq,rfl,_,_⟩
     .rw[h0]at f;cases f
     .rw[fq]at f;cases f;exact⟨_,Mb,rfl⟩
    .obtain⟨e,u,vj⟩:=h.xsA s hs d f;exact⟨e,j9 e u,vj⟩
   .obtain⟨u1,u2,u3⟩:=Z x Ej;refine⟨u1,u2,λhL=> ?_⟩;rcases(DS bp).1 hL with e|hL
    .have:=M.1 x hx;simp only at this;omega
    .exact u3 hL
   .have:=P4 j o' hj f8 (λhL=>N ((DS bp).2 (.inr hL)));rcases Jv.1 this with e|hm
    .cases e;exact absurd ((DS bp).2 (.inl rfl)) N
    .exact hm
   .rcases(DS bp).1 hL with e|hL
    .have:=(z.pin H O).2;rw[e]at this;omega
    .have b9:H.i≠i:=λe=>hi (e▸hL);have y:=h.ent H O hL;obtain⟨ρ',p',_,hs',_⟩:=z.par.step H O;obtain⟨U,sl2⟩:=UV hs';unfold Pj at y⊢;split
     .exact Jm
     .rename_i e u;rw[u]at y U;simp only at y;refine(DE.keep n3 y).put (λf=> ?_) (λg b L f=> ?_)
      .have:H.o.dst=some e.slot:=by rw[<-U];rfl
       exact b9 (z.dr.uniq _ _ _ _ _ (z.pin H O).1 ho this f)
      .obtain⟨j,p2,mz,hj⟩:=sl2 e u g b L;cases tn:ops[j]? with
       |none=>rw[tn]at hj;cases hj
       |some oj=>
        rw[tn]at hj;have X0:=z.dr.uniq _ _ _ _ _ tn ho hj f;have hw:=z.dr.guard _ _ _ _ (z.pin H O).1 mz;exact hi (X0▸h.closed _ _ _ (z.pin H O).1 hL hw)
   .rw[Ps (C o Mb)];exact h.tmp t (λq S hL=>ht q S ((DS bp).2 (.inr hL))) hf (λs hs=>C s (Kd _ hs))
   .have b9:j≠i:=λe=>by rw[e]at f8;omega
    have sc:Ld listed j:=by
     rcases(DS bp).1 hL with e|hL
     .exact absurd e b9
     .exact hL
    rw[Ps (λfq=>b9 (z.dr.uniq _ _ _ _ _ hj ho (QM jr) fq))];exact h.frd j o' s d hj f8 jr sc f
   .rcases(DS bp).1 hL with e|hL
    .subst e;rw[ho]at hj;cases hj;exact(DS bp).2 (.inr (hr l hw))
    .exact Cy
   .rcases(DS bp).1 hL with e|hL
    .subst e;omega
    .exact h.no2 j o' hj f8 hL
  unfold wpOp;rw[ho];simp only;rw[Ji (by simp[Region.wanted,L])];refine .inl ?_;unfold c8r at B;split at B
  .rename_i T px xx da;simp only[Js]at B;obtain⟨sp,rj,sx,rk,rr,B,f⟩:=B;split at f;rotate_left
   .cases f
   rename_i wc;simp only[Iv]at f;obtain⟨rfl,rfl,rfl⟩:=f;have V:=Re (E:=E) (a:=a) (g:=none) (λn s N=>(h.glo n s N).2) de (λq b e=>E8);obtain⟨m,bt,W⟩:=b63 h.own (V _ _ rj) (V _ _ rk) B hp;have hx:(execOp a.eval o).run E.P w=.ok .skip m:=by simp[execOp,da,bt]
   unfold Oper.wp;rw[hx];exact hK _ m μ _ _ _ _ (next m μ undef W.own W.fr W.keeps h.fresh h.anc (b7v B) (.inl ⟨rfl,wc⟩))
  .split at B;rotate_left
   .cases B
   rename_i p1 s1 own1 Y;split at B;rotate_left
   .cases B
   rename_i ff;simp only[Ke]at ff;obtain⟨⟨c1,c2⟩,c3⟩:=ff;replace c1:=Nat.eq_of_beq_eq_true c1;replace c2:=Nat.eq_of_beq_eq_true c2;simp only[Iv]at B;obtain⟨rfl,rfl,rfl⟩:=B;have hS:SD E B0 X A w0 nt ⟨OI (OO ops o) (VT ps i++ρ0),om⟩ a w μ:=⟨h.own,h.fr,h.base,h.glo,h.dfr,h.size,de,λk J=>by simp only at J;refine h.fresh k Dz (λq S _ W e=> ?_);have:=z.par.top q S W;rw[<-h.len]at this;omega,h.anc⟩
   refine c3j hC hS (by rw[<-b96];exact Y) hp (λv m c q1 q2 q3 q4 q5 q6=>hK _ m c _ _ _ _ (next m c v q1 q2 ⟨q3.size,q3.block,q3.less,λk x hx=>q3.own k x E2 hx⟩ (λk J _=>q4 k Dz) q5 Dz ?_));cases f:o.dst with
   |none=>exact .inl ⟨rfl,rfl⟩
   |some d=>exact .inr ⟨d,s1,rfl,rfl,by rw[<-f];exact c3,q6⟩
theorem f6y{d:Nat}{v:Value}(h:d<a.tmps.size):(a.put (some d) v).tmps.getD d undef=v:=by simp[Act.put,h]
theorem f0t{d:Nat}{v:Value}(h:d<a.tmps.size->a.tmps.getD d undef=v):a.put (some d) v=a:=by
 have:a.tmps.setIfInBounds d v=a.tmps:=by
  by_cases b:d<a.tmps.size
  .have e:=h b;have c:a.tmps[d]=v:=by
    rw[<-e];simp[Array.getD,b]
   rw[<-c];simp[Array.setIfInBounds,b]
  .simp[Array.setIfInBounds,b]
 unfold Act.put;simp only;rw[this]
theorem c6r{P:Program}{o:Oper}{s d:Nat}(b:Qo o=some (s,d)){c:Act->World->Prop}{Q:Exit->Act->World->Prop}:o.wp P a w c Q↔c (a.put (some d) (a.tmps.getD s undef)) w:=by
 obtain⟨e,_⟩:=c29 b;have f:=QM b;have hx:(execOp a.eval o).run P w=.ok (.value (a.tmps.getD s undef)) w:=by simp[execOp,e,Act.eval]
 unfold Oper.wp;rw[hx,Oper.upon_value,f]
theorem d6g(c:Fixed E nt ops st ρ0 ps es own0)(h:Inv1 E B0 X A w0 nt ops st a0 ρ0 ps es own0 K listed a w μ sd xs sr om)(bq:listed.size=ops.size){i:Nat}{o:Oper}(ho:ops[i]?=some o)(I:(kinds (kb E.c2 ops) ops).getD i 0=3)
 (hi:¬Ld listed i) (hr:∀j,FK o j=true->Ld listed j) {T:Act->World->Prop} {Q:Exit->Act->World->Prop}
 (hK:∀U V J,Inv1 E B0 X A w0 nt ops st a0 ρ0 ps es own0 K (listed.setIfInBounds i true) U V J sd xs sr om->T U V):wpOp E.P ops Q i T a w:=by
 have bp:i<listed.size:=Fp;obtain⟨s,d,hf,L⟩:=c.dr.free i o ho I;have z:=QM hf;have Zx:d∈MX (kb E.c2 ops) ops:=Sn.2 ⟨i,o,ho,I,z⟩;have r:∀{v:Value} t,t≠d->(a.put (some d) v).tmps.getD t undef=a.tmps.getD t undef:=λt M=>Ps (λe=>M (Km e).symm);have N:a.tmps.getD s undef=a0.tmps.getD s undef:=h.tmp s (λq f _=>(L q.i q.o (c.pin q f).1).1) (λhD=>by
  obtain⟨j,o',h1,_,h3⟩:=Sn.1 hD;exact(L j o' h1).1 h3) (λy hs'=>by
  obtain⟨j,hj,_,_⟩:=h.sdL y hs';exact(L j y hj).1)
 unfold wpOp;rw[ho];simp only;rw[Ji Hh];refine .inl ((c6r hf).2 (hK _ w μ ?_));refine⟨h.own,h.len,h.fr,h.base,h.glo,h.dfr,by simp[Act.put,h.size],h.sk,h.late,λx hx=> ?_,λe C=> ?_,h.xsA,λx hx=> ?_,λj o' hj f8 O=> ?_,h.srP,
  λq f hL=> ?_,λt M W m=> ?_,λj o' y Y hj f8 F hL u=> ?_,λk dh O=>h.fresh k dh (λq f hL=>O q f ((DS bp).2 (.inr hL))),h.env0,λj o' l hj hL hw=> ?_,h.anc,λj o' hj f8 hL=> ?_⟩
 .obtain⟨j,hj,f8,hL⟩:=h.sdL x hx;exact Cx
 .obtain⟨Z,e2,y,hs',m⟩:=h.xsE e C;obtain⟨j,hj,f8,_⟩:=h.sdL y hs';refine⟨Z,e2.put (λu=> ?_) (λg b G=>by rw[Z]at G;cases G),y,hs',m⟩;have:=c.dr.uniq _ _ _ _ _ ho hj (z.trans u) m;rw[this]at I;omega
 .obtain⟨u1,u2,u3⟩:=h.srU x hx;refine⟨u1,u2,λhL=> ?_⟩;rcases(DS bp).1 hL with e|hL
  .rw[e]at u2;omega
  .exact u3 hL
 .exact h.srA j o' hj f8 (λhL=>O ((DS bp).2 (.inr hL)))
 .have R4:=(c.pin q f).2;have b9:q.i≠i:=λe=>by rw[e]at R4;omega
  have H:Ld listed q.i:=by
   rcases(DS bp).1 hL with e|hL
   .exact absurd e b9
   .exact hL
  have n:=h.ent q f H;obtain⟨ρ',p',_,hs',_⟩:=c.par.step q f;obtain⟨B,R⟩:=UV hs';unfold Pj at n⊢;split
  .exact Jm
  .rename_i e C;rw[C]at n B;simp only at n;refine n.put (λu=> ?_) (λg b G u=> ?_)
   .have:q.o.dst=some e.slot:=by rw[<-B];rfl
    exact b9 (c.dr.uniq _ _ _ _ _ (c.pin q f).1 ho this (z.trans u))
   .obtain⟨j,p2,mz,hj⟩:=R e C g b G;cases tn:ops[j]? with
    |none=>rw[tn]at hj;cases hj
    |some oj=>
     rw[tn]at hj;have X0:=c.dr.uniq _ _ _ _ _ tn ho hj (z.trans u);have hw:=c.dr.guard _ _ _ _ (c.pin q f).1 mz;exact hi (X0▸h.closed _ _ _ (c.pin q f).1 H hw)
 .rw[r t (λe=>W (e▸Zx))];exact h.tmp t (λq f hL=>M q f ((DS bp).2 (.inr hL))) W m
 .by_cases e:j=i
  .subst e;rw[ho]at hj;cases hj;rw[hf]at F;cases F;rw[f6y (by rw[h.size];exact u)];exact N
  .have H:Ld listed j:=by
    rcases(DS bp).1 hL with S|hL
    .exact absurd S e
    .exact hL
   rw[r Y (λS=>e (c.dr.uniq _ _ _ _ _ hj ho (QM F) (by rw[z,S])))];exact h.frd j o' y Y hj f8 F H u
 .rcases(DS bp).1 hL with e|hL
  .subst e;rw[ho]at hj;cases hj;exact(DS bp).2 (.inr (hr l hw))
  .exact Cy
 .rcases(DS bp).1 hL with e|hL
  .subst e;omega
  .exact h.no2 j o' hj f8 hL
theorem settle(d:Fixed E nt ops st ρ0 ps es own0)(h:Inv1 E B0 X A w0 nt ops st a0 ρ0 ps es own0 K listed a w μ sd xs sr om)(B:∀(i:Nat) (o:Oper),ops[i]?=some o->(kinds (kb E.c2 ops) ops).getD i 0≠2->(kinds (kb E.c2 ops) ops).getD i 0≠3->Ld listed i):
 SD E B0 X A w0 nt ⟨xs++(es++ρ0),om⟩ a w μ/\f01 E (kb E.c2 ops) nt ops K ⟨xs++(es++ρ0),om⟩:=by
 have G:∀q∈ps,Ld listed q.i:=λq c=>B q.i q.o (d.pin q c).1 (by rw[(d.pin q c).2];omega) (by rw[(d.pin q c).2];omega);refine⟨⟨h.own,h.fr,h.base,h.glo,h.dfr,h.size,λt e f=> ?_,λk v=> ?_,h.anc⟩,?_⟩
 .have C:=NK f;simp only at f;rw[b58]at f;split at f
  .rename_i x hx;cases f;exact(h.xsE _ (OR hx)).2.1
  rename_i H;rw[b58]at f;split at f
  .rename_i x hx;cases f;obtain⟨q,c,I⟩:=(d.es _).1 (OR hx);have:=h.ent q c (G q c);rw[I]at this;exact this
  .rename_i J;have l:=h.env0 t e f;have L:∀q∈ps,q.o.dst≠some t:=by
    intro q c m;obtain⟨ρq,p,_,hs,_⟩:=d.par.step q c;have F:=(UV hs).1;rw[m,Jq]at F;obtain⟨y,M,hs'⟩:=F;exact b31.1 J y ((d.es _).2 ⟨q,c,M⟩) hs'
   have u:=h.tmp t (λq c _=>L q c) (by rw[<-C];exact d.fno e (OR f)) (λs hs m=>by obtain⟨y,N,hs'⟩:=h.xsA s hs t m;exact b31.1 H y N hs')
   unfold DE at l⊢;rw[C]at l⊢;split
   .rename_i n;rw[n]at l;simp only at l;rw[u];exact l
   .rename_i g b n;rw[n]at l;simp only at l;have O:=h.tmp g (λq c _ m=>d.gno e (OR f) g b n q.i q.o (d.pin q c).1 m) (λP=>by
     obtain⟨j,Q,R,h2,S⟩:=Sn.1 P;exact d.gno e (OR f) g b n j Q R S) (λs hs m=>by
     obtain⟨j,T,_,_⟩:=h.sdL s hs;exact d.gno e (OR f) g b n j s T m)
    rw[u,O];exact l
 .simp only at v;rw[h.len]at v;refine h.fresh k (Lr d.top v) (λq c _ U e=> ?_);have:=d.par.top q c U;omega
 .have z:sr=[]:=by
   match sr,h.srU with
   | [],_=>rfl
   |x::r,V=>
    obtain⟨W,u2,Y⟩:=V x E2;exact absurd (B _ _ W Dz Dz) Y
  have:=h.sk;rw[z]at this;exact this
end
theorem b0r(ks:List Nat)(o:Oper):SS ks o<=2:=by
 unfold SS;split
 .exact C2
 .split<;>decide
theorem c2f(ks:List Nat)(o:Oper):b2u ks o<=2:=by
 unfold b2u;split
 .exact C2
 .split
  .exact C2
  .exact b0r _ _
theorem c2v(ks:List Nat)(o:Oper):b33 ks o<=2:=by
 unfold b33;split
 .exact C2
 .split
  .decide
  .split
   .split<;>decide
   .exact b0r _ _
theorem c48(ops:Array Oper)(ks:List Nat)(o:Oper):b3f ops ks o<=2:=by
 unfold b3f;split
 .exact C2
 .split
  .decide
  .exact b0r _ _
theorem c4k(b:Nat)(ops:Array Oper)(i:Nat):(d89 b ops).getD i 0<=2:=by
 have:∀(l:List Oper) (a:List Nat),(∀x∈a,x<=2)->∀x∈l.foldl (λa o=>a++[match b with|0=>SS a o|1=>b2u a o|2=>b33 a o|_=>b3f ops a o]) a,x<=2:=by
  intro l;induction l with
  |nil=>intro a h;exact h
  |cons o l c=>
   intro a h;refine c _ (λx hx=> ?_);rcases K6.1 hx with hx|hx
   .exact h x hx
   .rw[Kb.1 hx];split
    .exact b0r _ _
    .exact c2f _ _
    .exact c2v _ _
    .exact c48 _ _ _
 have h:=this ops.toList [] E2;rw[Jg];cases e:(d89 b ops)[i]? with
 |none=>simp
 |some x=>exact h x (Jn e)
theorem f47(b:Nat)(ops:Array Oper)(i:Nat):(kinds b ops).getD i 0<=3:=by
 unfold kinds f5w;split
 .have:=c4k b ops i;omega
 .simp only;rw[Jg,K9];cases ops.toList.zipIdx[i]? with
  |none=>simp
  |some x=>
   simp only[Ja];split
   .exact C2
   .have:=c4k b ops x.2;omega
theorem b8n{ops:Array Oper}{listed:Array Bool}(bq:listed.size=ops.size)(d:∀(i:Nat) (o:Oper) (j:Nat),ops[i]?=some o->FK o j=true->j<i){i:Nat}(h:i∈Region.ready .any ops listed):∃o,ops[i]?=some o/\¬Ld listed i/\∀j,FK o j=true->Ld listed j:=by
 unfold Region.ready at h;simp only[Ki,Kk,Je]at h;obtain⟨h1,f,a⟩:=h;obtain⟨o,b⟩:∃o,ops[i]?=some o:=⟨ops[i],Es⟩
 refine⟨o,b,by unfold Ld;rw[f];simp,λj c=> ?_⟩;have b6:=d i o j b c;rw[b]at a;simp only[Ja]at a;rw[Array.all_eq_true_iff_forall_mem]at a;simp only[FK,K1,Jb]at c;obtain⟨e,g,k,rfl⟩:=c;have:=a e (by simpa using g);rw[k]at this;simp only[Bool.not_true,Nm]at this;unfold Ld;rw[<-this];have l:e.on<listed.size:=Dz;simp[Array.getD,l]
theorem d8h{ops:Array Oper}{listed:Array Bool}(d:∀(i:Nat) (o:Oper) (j:Nat),ops[i]?=some o->FK o j=true->j<i)(bq:listed.size=ops.size)(h:Region.ready .any ops listed=[]):∀(i:Nat) (o:Oper),ops[i]?=some o->Ld listed i:=by
 intro i;induction i using Nat.strongRecOn with
 |_ i f=>
  intro o a;have g:i<ops.size:=(K7.1 a).1;by_cases b:Ld listed i
  .exact b
  exfalso;have:i∈Region.ready .any ops listed:=by
   unfold Region.ready;simp only[Ki,Kk,Je];refine⟨g,by unfold Ld at b;simpa using b,?_⟩;rw[a];simp only[Ja];rw[Array.all_eq_true_iff_forall_mem];intro e k;cases hb:Region.binds .any e with
   |false=>rfl
   |true=>
    have l:FK o e.on=true:=by simp only[FK,K1,Jb];exact⟨e,by simpa using k,hb,rfl⟩
    have m:=d i o _ a l;obtain⟨c,n⟩:∃c,ops[e.on]?=some c:=⟨ops[e.on]'Dz,by simp[show e.on<ops.size from Dz]⟩
    have:=f _ m c n;unfold Ld at this;have q:e.on<listed.size:=Dz;simp[Array.getD,q]at this⊢;exact this
  rw[h]at this;simp at this
section
variable{E:Env}{B0:Nat}{X A:Nat->Prop}{w0:World}{nt:Nat}{ops:Array Oper}{st:St}{a0:Act}{ρ0:List Entry}{ps:List PI}{es:List Entry}{own0:List Blk}{K:St->Prop}
theorem b74{p:Nat->Bool}{t:Nat}{e:Entry}:∀{ρ:List Entry},CO t (ρ.filter λe=>p e.slot)=some e->CO t ρ=some e
 | [],h=>by simp[CO]at h
 |x::ρ,h=>by
  simp only[List.filter_cons]at h;split at h
  .simp only[CO]at h⊢;split
   .rename_i hx;rw[Ji hx]at h;exact h
   .rename_i hx;rw[Jj hx]at h;exact b74 h
  .rename_i a;have c:=b74 h;simp only[CO];split
   .rename_i hx;exfalso;have:∀{l:List Entry},CO t (l.filter λe=>p e.slot)=some e->p t=true:=by
     intro l b;have hs:=NK b;have:=(Ki.1 (OR b)).2;rw[hs]at this;exact this
    rw[hx]at a;exact a (this h)
   .exact c
theorem c24{w:World}{H:Nat->Prop}{μ:Mu}{tmps:Array Value}{a:List Nat}{ρ:List Entry}(h:El w H μ tmps ρ):El w H μ tmps (ρ.map (PG a)):=by
 intro t e b;rw[VS (b17 a),Jq]at b;obtain⟨d,f,rfl⟩:=b;have c:=h t d f;unfold PG;split
 .split
  .exact .any
  .exact c
 .exact c
theorem d9v{w:World}{H:Nat->Prop}{μ:Mu}{tmps:Array Value}{a:List Nat}{ρ:List Entry}(h:El w H μ tmps ρ):El w H μ tmps (ρ.filter λe=> !a.contains e.slot):=
 λt e b=>h t e (b74 (p:=λt=> !a.contains t) b)
theorem b45{c:List Nat}{e:Entry}{g:Nat}{b:Bool}(a:(PG c e).guard=some (g,b)):g∉c:=by
 unfold PG at a;split at a
 .rename_i g' b' d;split at a
  .cases a
  .rename_i f;rw[d]at a;cases a;exact λh=>f (by simpa using h)
 .rename_i i;rw[i]at a;cases a
def NoE(a:List Nat)(ρ:List Entry):Prop:=∀e∈ρ,e.slot∉a/\∀g b,e.guard=some (g,b)->g∉a
theorem d9z{a:List Nat}{ρ:List Entry}:NoE a (Ra a ρ):=by intro e c;obtain⟨e0,d,rfl⟩:=Jx.1 c;refine⟨?_,λg b f=>b45 f⟩;rw[b17];simpa using(Ki.1 d).2
theorem g48{w:World}{H:Nat->Prop}{μ:Mu}{tmps:Array Value}{a:List Nat}{ρ:List Entry}(h:El w H μ tmps ρ):El w H μ tmps (Ra a ρ):=c24 (d9v h)
theorem d13(ρ:List Entry):Ra [] ρ=ρ:=by
 have:∀ρ:List Entry,ρ.map (PG [])=ρ:=by
  intro ρ;induction ρ with
  |nil=>rfl
  |cons e ρ a=>
   have:PG [] e=e:=by
    unfold PG;split
    .simp
    .rfl
   rw[L4,this,a]
 unfold Ra;simp only[List.contains_nil,Bool.not_false];rw[List.filter_eq_self.2 (λ_ _=>rfl),this]
theorem SD.drp{a:Act}{w:World}{μ:Mu}{c:List Nat}{b:St}(h:SD E B0 X A w0 nt b a w μ):SD E B0 X A w0 nt ⟨Ra c b.ρ,b.own⟩ a w μ:=
 ⟨h.own,h.fr,h.base,h.glo,h.dfr,h.size,g48 h.env,h.fresh,h.anc⟩
theorem wp_put{P:Program}{o:Oper}{a:Act}{w:World}{K:Act->World->Prop}{Q:Exit->Act->World->Prop}(h:o.wp P a w K Q):o.wp P a w (λd c=>K d c/\∃v,d.tmps=(a.put o.dst v).tmps) Q:=by
 unfold Oper.wp at*;generalize (execOp a.eval o).run P w=r at*;have V8:∀v:Value,∃f,(a.put o.dst v).tmps=(a.put o.dst f).tmps:=λv=>⟨v,rfl⟩
 cases r with
 |ok n c=>
  cases n<;>simp only[Oper.upon]at h⊢ <;>
   first
    |exact⟨h,_,rfl⟩
    |exact⟨h,undef,by cases o.dst<;>rfl⟩
    |exact Calls.mono h (λe w'' b=>by cases e<;>first|exact⟨b,_,rfl⟩|exact b)
    |exact Rows.mono h (λ_ _ b=>⟨b,_,rfl⟩)
 |halt x c=>cases x<;>simp only[Oper.upon]at h⊢ <;>exact h
theorem f64(q:EnvOK E)(t:HF E){a:Act}{w:World}{j:St->Prop}:∀(l:List Oper) {b:St} {c:Mu} (r:List Oper),SD E B0 X A w0 nt b a w c->(∀o∈l,∃s d,Qo o=some (s,d)/\(d<nt->a.tmps.getD d undef=a.tmps.getD s undef))->PE E nt ops j (l++r) b->
 ∃f i,SD E B0 X A w0 nt f a w i/\PE E nt ops j r f:=by
 intro l;induction l with
 |nil=>intro b c r h _ e;exact⟨b,c,h,e⟩
 |cons o l u=>
  intro b c r h k e;simp only[Lx,b2f]at e;obtain⟨b,c,h,e⟩:=b1t h e;unfold TH at e;split at e;rotate_left
  .exact e.elim
  rename_i p f hs;rw[St.forceO_eq]at e;obtain⟨s,d,hf,v⟩:=k o E2;have:=b0z (K:=λm n=>∃g,SD E B0 X A w0 nt f m n g) (Q:=λ_ _ _=>False) q t h hs e.1.out (λm n g h=>⟨g,h⟩);rw[Ji Hh,c6r hf,f0t (λx=>v (by rw[<-h.size];exact x))]at this;obtain⟨i,y⟩:=this;exact u r y (λz B=>k z (by simp[B])) e.2
structure Inv2 (E:Env) (B0:Nat) (X A:Nat->Prop) (w0:World) (nt:Nat) (ops:Array Oper) (K:St->Prop) (listed:Array Bool) (a:Act) (w:World) (μ:Mu) (rest:List ((Oper×Nat)×List (Oper×Nat))) (st':St):Prop where
 sd:SD E B0 X A w0 nt st' a w μ
 sk:SA E (kb E.c2 ops) nt ops (MX (kb E.c2 ops) ops) K rest st'
 no:NoE (MX (kb E.c2 ops) ops) st'.ρ
 low:∀(i:Nat) (o:Oper),ops[i]?=some o->(kinds (kb E.c2 ops) ops).getD i 0≠2->(kinds (kb E.c2 ops) ops).getD i 0≠3->Ld listed i
 mem:∀g∈rest,ops[g.1.2]?=some g.1.1/\(kinds (kb E.c2 ops) ops).getD g.1.2 0=2/\¬Ld listed g.1.2
 grp:∀g∈rest,∀f∈g.2,ops[f.2]?=some f.1/\(kinds (kb E.c2 ops) ops).getD f.2 0=3/\Reach ops g.1.2 f.2
 all:∀(i:Nat) (o:Oper),ops[i]?=some o->(kinds (kb E.c2 ops) ops).getD i 0=2->¬Ld listed i->∃fs,((o,i),fs)∈rest
 pair:rest.Pairwise (λx y=>x.1.2<y.1.2)
 cl:∀(i:Nat) (o:Oper) (j:Nat),ops[i]?=some o->Ld listed i->FK o j=true->Ld listed j
 fr:∀(i:Nat) (o:Oper) (s d:Nat),ops[i]?=some o->(kinds (kb E.c2 ops) ops).getD i 0=3->Qo o=some (s,d)->Ld listed i->d<nt->a.tmps.getD d undef=a.tmps.getD s undef
theorem d7d(hE:EnvOK E)(hC:HF E)(S:Draws (kb E.c2 ops) ops){listed:Array Bool}{a:Act}{w:World}{μ:Mu}{z:List ((Oper×Nat)×List (Oper×Nat))}{W:St}(h:Inv2 E B0 X A w0 nt ops K listed a w μ z W)(bq:listed.size=ops.size){i:Nat}{o:Oper}(ho:ops[i]?=some o)(fe:(kinds (kb E.c2 ops) ops).getD i 0=2)
 (hi:¬Ld listed i) (Y:∀j,FK o j=true->Ld listed j) {Z:Act->World->Prop} {Q:Exit->Act->World->Prop}
 (hK:∀n u b B J,Inv2 E B0 X A w0 nt ops K (listed.setIfInBounds i true) n u b B J->Z n u):wpOp E.P ops Q i Z a w:=by
 have C:i<listed.size:=Fp;obtain⟨fs,cm⟩:=h.all i o ho fe hi;have c:=h.sk;have T:=h.mem;have F:=h.pair;have ha:=h.all;have U:=h.grp;match z,cm,c,T,F,ha,U with
 |((q,V),y)::r,cm,c,T,F,ha,U=>
  rw[Ku]at F;have tp:((o,i),fs)=((q,V),y):=by
   rcases Jv.1 cm with e|L
   .exact e
   .exfalso;have b6:V<i:=F.1 _ L;obtain⟨G,H,M⟩:=T ((q,V),y) E2;simp only at H;exact M (b0f h.cl (S.last i o V q ho fe G Dz Dz Dz) ho Y)
  cases tp;simp only[SA]at c;obtain⟨st2,μ2,h2,c⟩:=f64 hE hC (fs.map (·.1)) [o] h.sd (λo1 zr=>by obtain⟨f,hf,rfl⟩:=Jx.1 zr;obtain⟨G,H,M⟩:=U ((o,i),fs) E2 f hf;obtain⟨s,d,f1,_⟩:=S.free _ _ G H;exact⟨s,d,f1,h.fr _ _ _ _ G H f1 (b0f h.cl M ho Y)⟩) c
  simp only[b2f]at c;obtain⟨st2,μ2,h2,c⟩:=b1t h2 c;unfold TH at c;split at c;rotate_left
  .exact c.elim
  rename_i p N hs;simp only[St.force_eq,St.forceO_eq]at c;have l:=b0z (K:=λn u=>∃b,SD E B0 X A w0 nt N n u b) (Q:=Q) hE hC h2 hs c.1.out (λn u b hs'=>⟨b,hs'⟩);have O:∀n u,((∃b,SD E B0 X A w0 nt N n u b)/\∃v,n.tmps=(a.put o.dst v).tmps)->Z n u:=by
   rintro n u ⟨⟨b,hs'⟩,v,hv⟩;refine hK n u b r _ ⟨hs'.drp,c.2,d9z,λj q t hk qt=>(DS C).2 (.inr (h.low j q t hk qt)),λx hx=> ?_,λg se=>U g (by simp[se]),λj q t R hn=> ?_,F.2,λj q k t m I=> ?_,λj q s d t R jr m b6=> ?_⟩
   .obtain⟨G,H,M⟩:=T x Ej;refine⟨G,H,λm=> ?_⟩;rcases(DS C).1 m with e|m
    .have:=F.1 x hx;simp only at this;omega
    .exact M m
   .obtain⟨y,L⟩:=ha j q t R (λm=>hn ((DS C).2 (.inr m)));rcases Jv.1 L with e|L
    .cases e;exact absurd ((DS C).2 (.inl rfl)) hn
    .exact⟨y,L⟩
   .refine(DS C).2 (.inr ?_);rcases(DS C).1 m with e|m
    .subst e;rw[ho]at t;cases t;exact Y _ I
    .exact h.cl _ _ _ t m I
   .have b9:j≠i:=λe=>by rw[e]at R;omega
    have sc:Ld listed j:=by
     rcases(DS C).1 m with e|m
     .exact absurd e b9
     .exact m
    obtain⟨s',d',f1,f2⟩:=S.free j q t R;rw[jr]at f1;cases f1;rw[hv,Ps (λe=>b9 (S.uniq _ _ _ _ _ t ho (QM jr) e)),Ps (f2 i o ho).1];exact h.fr j q s d t R jr sc b6
  unfold wpOp;rw[ho];simp only;split
  .rename_i I;rw[Ji I]at l;exact .inl (Oper.wp_mono O (wp_put l))
  .rename_i I;rw[Jj I]at l;exact O _ _ ⟨l,_,rfl⟩
theorem d9a(C:Draws (kb E.c2 ops) ops){listed:Array Bool}{a:Act}{w:World}{μ:Mu}{m:List ((Oper×Nat)×List (Oper×Nat))}{u:St}(h:Inv2 E B0 X A w0 nt ops K listed a w μ m u)(bq:listed.size=ops.size){i:Nat}{o:Oper}(ho:ops[i]?=some o)(z:(kinds (kb E.c2 ops) ops).getD i 0=3)
 (V:∀j,FK o j=true->Ld listed j) {J:Act->World->Prop} {Q:Exit->Act->World->Prop}
 (W:∀L M F n v,Inv2 E B0 X A w0 nt ops K (listed.setIfInBounds i true) L M F n v->J L M):wpOp E.P ops Q i J a w:=by
 have r:i<listed.size:=Fp;obtain⟨s,d,hf,qu⟩:=C.free i o ho z;have G:=QM hf;have N:d∈MX (kb E.c2 ops) ops:=Sn.2 ⟨i,o,ho,z,G⟩;unfold wpOp;rw[ho];simp only;rw[Ji Hh];refine .inl ((c6r hf).2 (W _ w μ m u ?_));have l:=h.sd;refine⟨⟨l.own,l.fr,l.base,l.glo,l.dfr,by simp[Act.put,l.size],λt e O=> ?_,l.fresh,l.anc⟩,h.sk,h.no,λj q c z Y=>(DS r).2 (.inr (h.low j q c z Y)),λx hx=> ?_,h.grp,λj q c B Z=>h.all j q c B (λf=>Z ((DS r).2 (.inr f))),h.pair,λj q k c f R=> ?_,λj q S d' c B y f T=> ?_⟩
 .obtain⟨n1,n2⟩:=h.no e (OR O);exact(l.env t e O).put (λH=>n1 (by rw[<-Km H];exact N)) (λg b hg H=>n2 g b hg (by rw[<-Km H];exact N))
 .obtain⟨u1,U,u3⟩:=h.mem x hx;refine⟨u1,U,λf=> ?_⟩;rcases(DS r).1 f with e|f
  .rw[e]at U;omega
  .exact u3 f
 .refine(DS r).2 (.inr ?_);rcases(DS r).1 f with e|f
  .subst e;rw[ho]at c;cases c;exact V _ R
  .exact h.cl _ _ _ c f R
 .obtain⟨s1,d1,f1,f2⟩:=C.free j q c B;rw[y]at f1;cases f1;have rp:S≠d:=λe=>(f2 i o ho).1 (by rw[G,e]);rw[Ps (a:=a) (λe=>rp (Km e).symm)];by_cases e:j=i
  .subst e;rw[ho]at c;cases c;rw[hf]at y;cases y;rw[f6y (by rw[l.size];exact T)]
  .have sc:Ld listed j:=by
    rcases(DS r).1 f with I|f
    .exact absurd I e
    .exact f
   rw[Ps (a:=a) (λI=>e (C.uniq _ _ _ _ _ c ho (QM y) (by rw[G];exact I)))];exact h.fr j q S d' c B y sc T
def g33(E:Env)(B0:Nat)(X A:Nat->Prop)(w0:World)(nt:Nat)(ops:Array Oper)(st:St)(a0:Act)(ρ0:List Entry)(ps:List PI)(es:List Entry)(own0:List Blk)(K:St->Prop)(listed:Array Bool)(a:Act)(w:World):Prop:=
 (∃c e f g h,Inv1 E B0 X A w0 nt ops st a0 ρ0 ps es own0 K listed a w c e f g h)\/∃c b d,Inv2 E B0 X A w0 nt ops K listed a w c b d
theorem f56{ops:Array Oper}(c:JJ (kb E.c2 ops) ops 3=[]):∀(l:List ((Oper×Nat)×List (Oper×Nat))) (a:St),(∀g∈l,g.2=[])->PE E nt ops K (l.map (·.1.1)) a->SA E (kb E.c2 ops) nt ops [] K l a:=by
 intro l;induction l with
 |nil=>intro a _ h;simp only[SA,c];exact h
 |cons g l d=>
  intro a b h;simp only[SA,b g E2,List.map_nil,Nk];simp only[L4,b2f]at h⊢;refine d3z (λst=>f16 (λst e=> ?_) st) h;simp only[St.force_eq,d13];exact d _ (λf i=>b f (by simp[i])) e
theorem d2b(j:Draws (kb E.c2 ops) ops){a:St}(h:f01 E (kb E.c2 ops) nt ops K a):SA E (kb E.c2 ops) nt ops (MX (kb E.c2 ops) ops) K (TK (kb E.c2 ops) ops) ⟨Ra (MX (kb E.c2 ops) ops) a.ρ,a.own⟩:=by
 unfold f01 at h;split at h
 .rename_i b;have c:JJ (kb E.c2 ops) ops 3=[]:=by
   refine List.eq_nil_iff_forall_not_mem.2 (λx hx=> ?_);obtain⟨e,f⟩:=PJ.1 (show (x.1,x.2)∈JJ (kb E.c2 ops) ops 3 from hx);obtain⟨s,d,f1,_⟩:=j.free _ _ e f;have:d∈MX (kb E.c2 ops) ops:=Sn.2 ⟨x.2,x.1,e,f,QM f1⟩;rw[b]at this;cases this
  rw[b,d13];refine f56 c _ _ (λg i=> ?_) ?_
  .unfold TK at i;obtain⟨x,_,rfl⟩:=Jx.1 i;simp[c]
  .unfold TK;rw[M5];exact h
 .rename_i d ds b;rw[St.force_eq]at h;rw[b];exact h
theorem f5y(b:Fixed E nt ops st ρ0 ps es own0){listed:Array Bool}{a:Act}{w:World}{μ:Mu}{sd:List Oper}{xs:List Entry}{z:List (Oper×Nat)}{n:List Blk}(h:Inv1 E B0 X A w0 nt ops st a0 ρ0 ps es own0 K listed a w μ sd xs z n)(p:∀(i:Nat) (o:Oper),ops[i]?=some o->(kinds (kb E.c2 ops) ops).getD i 0≠2->(kinds (kb E.c2 ops) ops).getD i 0≠3->Ld listed i):
 Inv2 E B0 X A w0 nt ops K listed a w μ (TK (kb E.c2 ops) ops) ⟨Ra (MX (kb E.c2 ops) ops) (xs++(es++ρ0)),n⟩:=by
 obtain⟨B,C⟩:=settle b h p;refine⟨B.drp,d2b b.dr C,d9z,p,λx hx=> ?_,λx hx f F=> ?_,λi o c e hn=> ?_,?_,h.closed,λi o s d c e r G H=> ?_⟩
 .unfold TK at hx;obtain⟨y,k,rfl⟩:=Jx.1 hx;obtain⟨g,l⟩:=PJ.1 (show (y.1,y.2)∈JJ (kb E.c2 ops) ops 2 from k);exact⟨g,l,h.no2 _ _ g l⟩
 .unfold TK at hx;obtain⟨y,k,rfl⟩:=Jx.1 hx;obtain⟨g,l⟩:=PJ.1 (show (y.1,y.2)∈JJ (kb E.c2 ops) ops 2 from k);obtain⟨I,t⟩:=Ki.1 F;obtain⟨u,v⟩:=PJ.1 (show (f.1,f.2)∈JJ (kb E.c2 ops) ops 3 from I);refine⟨u,v,?_⟩;obtain⟨s,d,f1,f2⟩:=b.dr.free _ _ u v;rw[QM f1]at t;exact((f2 _ _ g).2 (by simpa using t)).2
 .exact⟨_,Jx.2 ⟨(o,i),PJ.2 ⟨c,e⟩,rfl⟩⟩
 .unfold TK;rw[L2];exact b23 _ _ _
 .obtain⟨m,d',f1,f2⟩:=b.dr.free _ _ c e;rw[r]at f1;cases f1;rw[h.frd i o s d c e r G H];exact(h.tmp s (λq J _=>(f2 q.i q.o (b.pin q J).1).1) (λL=>by
   obtain⟨j,M,g1,_,N⟩:=Sn.1 L;exact(f2 j M g1).1 N) (λm hs'=>by
   obtain⟨j,O,_,_⟩:=h.sdL m hs';exact(f2 j m O).1)).symm
theorem walk(O:EnvOK E)(I:HF E)(n:Fixed E nt ops st ρ0 ps es own0){Q:Exit->Act->World->Prop}(hQ:∀g k l c,SD E B0 X A w0 nt g k l c->K g->Q .normal k l):∀(fuel:Nat) (listed:Array Bool) (U:List Nat) (a:Act) (w:World),
 listed.size=ops.size->(∀(i:Nat) (o:Oper),ops[i]?=some o->¬Ld listed i->i∈U)->U.length<=fuel->g33 E B0 X A w0 nt ops st a0 ρ0 ps es own0 K listed a w->wpAny E.P .any ops Q fuel listed a w:=by
 have C:∀(listed:Array Bool) (a:Act) (w:World),g33 E B0 X A w0 nt ops st a0 ρ0 ps es own0 K listed a w->(∀(i:Nat) (o:Oper),ops[i]?=some o->Ld listed i)->Q .normal a w:=by
  intro listed a w h z;have two:∀{t b g},Inv2 E B0 X A w0 nt ops K listed a w t b g->Q .normal a w:=by
   intro t b g h;have:b=[]:=by
    match b,h.mem with
    | [],_=>rfl
    |x::r,hm=>obtain⟨F,_,u3⟩:=hm x E2;exact absurd (z _ _ F) u3
   have J:=h.sk;rw[this]at J;simp only[SA]at J;obtain⟨st2,μ2,u,fe⟩:=f64 O I ((JJ (kb E.c2 ops) ops 3).map (·.1)) [] h.sd (λo ho=>by obtain⟨f,hf,rfl⟩:=Jx.1 ho;obtain⟨F,u2⟩:=PJ.1 (show (f.1,f.2)∈JJ (kb E.c2 ops) ops 3 from hf);obtain⟨s,d,f1,_⟩:=n.dr.free _ _ F u2;exact⟨s,d,f1,h.fr _ _ _ _ F u2 f1 (z _ _ F)⟩) (by rw[List.append_nil];exact J)
   exact hQ _ _ _ _ u fe
  rcases h with⟨t,R,S,T,V,h⟩|⟨t,b,g,h⟩
  .exact two (f5y n h (λi o ho _ _=>z i o ho))
  .exact two h
 intro fuel;induction fuel with
 |zero=>
  intro listed U a w bq L hl h;have z:∀(i:Nat) (o:Oper),ops[i]?=some o->Ld listed i:=by
   intro i o ho;by_cases M:Ld listed i
   .exact M
   .have:=L i o ho M;rw[M1.1 (by omega:U.length=0)]at this;simp at this
  refine⟨?_,C listed a w h z⟩;refine List.eq_nil_iff_forall_not_mem.2 (λi W=> ?_);obtain⟨o,ho,y,_⟩:=b8n bq n.dr.lt W;exact y (z i o ho)
 |succ fuel ih=>
  intro listed U a w bq L hl h;refine⟨λY=>C listed a w h (d8h n.dr.lt bq Y),λi W=> ?_⟩;obtain⟨o,ho,y,B⟩:=b8n bq n.dr.lt W;have Z:=L i o ho y;have bp:i<listed.size:=Fp;have next:∀k l,g33 E B0 X A w0 nt ops st a0 ρ0 ps es own0 K (listed.setIfInBounds i true) k l->wpAny E.P .any ops Q fuel (listed.setIfInBounds i true) k l:=by
   intro k l hs;refine ih _ (U.erase i) k l (by simpa using bq) (λj o' hj G=> ?_) ?_ hs
   .have b9:j≠i:=λe=>G ((DS bp).2 (.inl e));exact(List.mem_erase_of_ne b9).2 (L j o' hj (λM=>G ((DS bp).2 (.inr M))))
   .rw[List.length_erase_of_mem Z];omega
  have two:∀{t b g},Inv2 E B0 X A w0 nt ops K listed a w t b g->wpOp E.P ops Q i (wpAny E.P .any ops Q fuel (listed.setIfInBounds i true)) a w:=by
   intro t b g h;by_cases N:(kinds (kb E.c2 ops) ops).getD i 0=3
   .exact d9a n.dr h bq ho N B (λk l c m q v=>next k l (.inr ⟨c,m,q,v⟩))
   have u:(kinds (kb E.c2 ops) ops).getD i 0=2:=by
    by_cases u:(kinds (kb E.c2 ops) ops).getD i 0=2
    .exact u
    .exact absurd (h.low i o ho u N) y
   exact d7d O I n.dr h bq ho u y B (λk l c m q v=>next k l (.inr ⟨c,m,q,v⟩))
  rcases h with⟨t,R,S,T,V,h⟩|⟨t,b,g,h⟩
  .have J:=f47 (kb E.c2 ops) ops i;by_cases Y:(kinds (kb E.c2 ops) ops).getD i 0=0
   .exact f0c O I n h bq ho Y y B (λk l c v=>next k l (.inl ⟨c,R,S,T,V,v⟩))
   by_cases h1:(kinds (kb E.c2 ops) ops).getD i 0=1
   .exact d23 I n h bq ho h1 y B (λk l c sd' xs' sr' om' v=>next k l (.inl ⟨c,sd',xs',sr',om',v⟩))
   by_cases N:(kinds (kb E.c2 ops) ops).getD i 0=3
   .exact d6g n h bq ho N y B (λk l c v=>next k l (.inl ⟨c,R,S,T,V,v⟩))
   have u:(kinds (kb E.c2 ops) ops).getD i 0=2:=Dz;refine two (f5y n h (λj o' hj f8 H=>b0f h.closed (n.dr.last i o j o' ho u hj (λe=>f8 (e▸u)) (λhc=>f8 hc.1) H) ho B))
  .exact two h
theorem d28(L:EnvOK E)(M:HF E)(N:E.P.follows .mixedOrders=true){id:Nat}(O:Un (kb E.c2 ops) ops=true){a:Act}{w:World}{μ:Mu}(h:SD E B0 X A w0 nt st a w μ)(z:f0p E nt ops K st){R:Exit->Act->World->Prop}
 (Q:∀n F G B,SD E B0 X A w0 nt n F G B->K n->R .normal F G):(Code.region id ops true).wp E.P R a w:=by
 have S:=f1h O;refine wp_region_any N ?_;change wpAny E.P .any ops R ops.size (Array.replicate ops.size false) a w.drew;simp only[f0p,d7h,f8b]at z;generalize f:(st.ρ.filter λe=> !(MX (kb E.c2 ops) ops).contains e.slot).map (PG (ops.toList.filterMap (·.dst)))=ρ0 at z;obtain⟨ps,es,own0,H,T,m,U,V,_,r,u⟩:=g46 (base:=st.own) (JJ (kb E.c2 ops) ops 0) [] [] st.own z ⟨E2,E2,E2,E2,λ_ _ h=>h,E2⟩ E2 E2 E2 (b23 _ _ _) (Jp _) E2;have I:∀q∈ps,ops[q.i]?=some q.o/\(kinds (kb E.c2 ops) ops).getD q.i 0=0:=by
  intro q C;rcases U q C with h|h
  .simp at h
  .exact PJ.1 h
 have W:Fixed E nt ops st ρ0 ps es own0:=by
  refine⟨S,H,I,λi o c m=>V (o,i) (PJ.2 ⟨c,m⟩),T,λe l=> ?_,λe l g b Y i o c Z=> ?_,r,u⟩
  .rw[<-f,Jx]at l;obtain⟨e0,mq,rfl⟩:=l;rw[b17];simpa using(Ki.1 mq).2
  .rw[<-f,Jx]at l;obtain⟨e0,_,rfl⟩:=l;exact b45 Y (Nh.2 ⟨o,Array.mem_toList_iff.2 (Array.mem_of_getElem? c),Z⟩)
 have v:∀i,i<ops.size->¬Ld (Array.replicate ops.size false) i:=by intro i hi;unfold Ld;simp[hi]
 refine walk (a0:=a) L M W Q ops.size _ (List.range ops.size) a w.drew E2 (λi o c _=>by simpa using(K7.1 c).1) E2 (.inl ⟨μ,[],[],JJ (kb E.c2 ops) ops 1,own0,?_⟩);have lt:∀{i:Nat} {o:Oper},ops[i]?=some o->i<ops.size:=λc=>(K7.1 c).1;refine⟨(h.own.drew).more H.base,rfl,h.fr.trans Fr.drew,h.base,NW Keeps.drew h.glo,h.dfr,h.size,m,.inl rfl,E2,E2,E2,λx hx=> ?_,λi o c m _=>PJ.2 ⟨c,m⟩,b23 _ _ _,
  λq C y=>absurd y (v _ (lt (I q C).1)),λt _ _ _=>rfl,λi o s d c _ _ y=>absurd y (v _ (lt c)),λk m _=>h.fresh k m,?_,λi o j c y=>absurd y (v _ (lt c)),h.anc,λi o c _=>v _ (lt c)⟩
 .obtain⟨J,u2⟩:=PJ.1 (show (x.1,x.2)∈JJ (kb E.c2 ops) ops 1 from hx);exact⟨J,u2,v _ (lt J)⟩
 .rw[<-f];have l:El w.drew (held A μ) μ a.tmps st.ρ:=λt e l=>DE.keep Keeps.drew (h.env t e l);exact c24 (d9v l)
end
def addE(ρ:List Entry)(t:Nat)(s:SV):List Entry:=⟨t,none,s⟩::ρ
def Qa:List (TypeId×Nat)->List (Nat×(Nat->List SV))->List Blk
 |t::a,r::b=>.row t.1 t.2 r.1 r.2 none::Qa a b
 |_,_=>[]
theorem b0k:∀(ts:List (TypeId×Nat)) (a:List (Nat×(Nat->List SV))),ts.length=a.length->(Qa ts a).length=ts.length
 | [],[],_=>rfl
 |t::ts,r::a,h=>by simp only[Qa,Kz,b0k ts a E6]
 | [],_::_,h=>Ec
 |_::_,[],h=>Ec
theorem b6v:∀(ts:List (TypeId×Nat)) (a:List (Nat×(Nat->List SV))) (j:Nat) (b:Blk),(Qa ts a)[j]?=some b->∃t r,ts[j]?=some t/\a[j]?=some r/\b=.row t.1 t.2 r.1 r.2 none
 | [],_,j,b,h=>by simp[Qa]at h
 |_::_,[],j,b,h=>by simp[Qa]at h
 |t::ts,r::a,0,b,h=>by simp[Qa]at h;exact⟨t,r,rfl,rfl,h.symm⟩
 |t::ts,r::a,j+1,b,h=>by obtain⟨c,d,h1,e,f⟩:=b6v ts a j b (by simpa[Qa]using h);exact⟨c,d,Fn,by simpa using e,f⟩
def d6b(E:Env)(t:Nat)(st:St):Option (Prop×St):=match CO t st.ρ with
 |some ⟨_,none,.fp c k i 0⟩=>match st.own[k]? with
  |some (.fam T b n none F)=>match F i with
   |⟨d,a⟩=>if b.length=a.length/\E.ak k=false then
      some (c=true/\i<n,⟨addE st.ρ t (.own st.own.length 0),st.own.set k (.fam T b n (some (i,st.own.length)) F)++ .cells T (d.map (SV.ren0 λj=>some (st.own.length+1+j)))::Qa b a⟩)
    else none
  |_=>none
 |_=>none
section
variable{E:Env}{B0:Nat}{X A:Nat->Prop}{w0:World}{nt:Nat}{st:St}{a:Act}{w:World}{μ:Mu}
theorem El.add{w:World}{H:Nat->Prop}{μ:Mu}{tmps:Array Value}{ρ:List Entry}(h:El w H μ tmps ρ){t:Nat}{s:SV}(hs:D w H μ s (tmps.getD t undef)):El w H μ tmps (addE ρ t s):=by
 intro b e a;simp only[addE,CO]at a;split at a
 .rename_i e1;cases a;unfold DE;exact hs
 .exact h b e a
theorem c45(h:SD E B0 X A w0 nt st a w μ){t:Nat}{pre:Prop}{st':St}(I:d6b E t st=some (pre,st'))(hp:pre):∃d,SD E B0 X A w0 nt st' a w d:=by
 unfold d6b at I;split at I;rotate_left
 .cases I
 rename_i t' ok k i gh;split at I;rotate_left
 .cases I
 rename_i T Z n F hk;split at I;rename_i cs y hF;split at I;rotate_left
 .cases I
 rename_i bb;obtain⟨bb,s4⟩:=bb;simp only[Iv]at I;obtain⟨rfl,rfl⟩:=I;obtain⟨rfl,hi⟩:=hp;have f6:=h.env t _ gh;have j5:=NK gh;simp only at j5;subst j5;unfold DE at f6;simp only at f6;generalize hv:a.tmps.getD t' undef=v at f6;cases f6 with
 |fp hfp=>
 simp only[L1]at hfp;obtain⟨R,J,b,o,R6,rfl⟩:=hfp;obtain⟨bl,e,ba⟩:=h.own.blk _ _ o;rw[hk]at e;cases e;obtain⟨S,qs',U,P,_⟩:=ba;simp only[Option.map_none]at P;obtain⟨rfl,rfl⟩:=PW U;obtain⟨b',us,h1,h2,h3⟩:=P.mem i hi;rw[R6]at h1;cases h1;rcases h3 with⟨h3,_⟩|⟨_,z,rfl,V⟩
 .cases h3
 have nj:k<st.own.length:=(Jk.1 hk).1;have bp:i<J.length:=by rw[P.ql];exact hi
 rw[hF]at V;let L:=st.own.length
 let d:Mu:=λj=>if j=k then some (BQ R (J.set i []))else if j=L then some (.pointer (some ⟨b,0,none⟩))else if L<j then z[j-L-1]? else μ j
 have m1:d k=some (BQ R (J.set i [])):=by simp[d]
 have m2:d L=some (.pointer (some ⟨b,0,none⟩)):=by simp[d,show¬L=k from Dz]
 have m3:∀j,L<j->d j=z[j-L-1]?:=λj f=>by simp[d,show¬j=k from Dz,show¬j=L from Dz,f]
 have m4:∀j,j≠k->j<L->d j=μ j:=λj h1 h2=>by simp[d,h1,show¬j=L from Dz,show¬L<j from Dz]
 have bh:∀{j x},d j=some x->(j=k/\x=BQ R (J.set i []))\/(j=L/\x=.pointer (some ⟨b,0,none⟩))\/(L<j/\z[j-L-1]?=some x)\/(j≠k/\j<L/\μ j=some x):=by
  intro j x f;by_cases U:j=k
  .subst U;rw[m1]at f;exact .inl ⟨rfl,(Km f).symm⟩
  .by_cases e2:j=L
   .subst e2;rw[m2]at f;exact .inr (.inl ⟨rfl,(Km f).symm⟩)
   .by_cases e3:L<j
    .rw[m3 j e3]at f;exact .inr (.inr (.inl ⟨e3,f⟩))
    .rw[m4 j U Dz]at f;exact .inr (.inr (.inr ⟨U,Dz,f⟩))
 have b7:∀(j:Nat) (u:Value),z[j]?=some u->∃t r,Z[j]?=some t/\y[j]?=some r/\JW w (held A μ) (loc z) u t.1 t.2 r.1 r.2 none:=by intro j u M;have G:j<z.length:=(Jk.1 M).1;have l1:=V.len;have l2:=V.rlen;simp only at l2;have g1:Z[j]?=some (Z[j]'Dz):=Jh _;have g2:y[j]?=some (y[j]'Dz):=Jh _;exact⟨_,_,g1,g2,V.rows j _ _ u g1 g2 M⟩
 have j5:∀(j:Nat) (u:Value),z[j]?=some u->∃a n m,u=.slice a n m:=λj u M=>by obtain⟨_,_,_,_,a,m,e,_⟩:=b7 j u M;exact⟨_,_,_,e⟩
 have B:∀{j x c},d j=some x->CS x c->(∃(N K:Nat) (l:List Value) (u:Value),J[N]?=some l/\l[K]?=some u/\FO u=some c/\((j=k/\N≠i)\/(j=L+K/\N=i)))\/(j≠k/\j<L/\μ j=some x):=by
  intro j x c f hx;rcases bh f with⟨rfl,rfl⟩|⟨rfl,rfl⟩|⟨G,M⟩|h4
  .obtain⟨l,u,g1,g2,q⟩:=Oc.1 hx;obtain⟨N,b8⟩:=Lg.1 g1;obtain⟨K,Q⟩:=Lg.1 g2;obtain⟨U,e2⟩:=WK b8 Q;exact .inl ⟨N,K,l,u,e2,Q,q,.inl ⟨rfl,U⟩⟩
  .refine .inl ⟨i,0,_,_,h2,rfl,?_,.inr ⟨rfl,rfl⟩⟩;have e:=c6t.1 hx;simp only at e;subst e;rfl
  .obtain⟨a,n,m,rfl⟩:=j5 _ _ M;refine .inl ⟨i,j-L,_,_,h2,?_,SX.1 hx,.inr ⟨Dz,rfl⟩⟩;rw[show j-L=(j-L-1)+1 from Dz];simpa using M
  .exact .inr h4
 have d9:∀{N K l u c},J[N]?=some l->l[K]?=some u->FO u=some c->CS (BQ R J) c:=λg1 g2 q=>Oc.2 ⟨_,_,Jn g1,Jn g2,q⟩;have be:∀c,held A d c->held A μ c:=by
  rintro c (hc|⟨j,x,f,hx⟩)
  .exact .inl hc
  .rcases B f hx with⟨N,K,l,u,g1,g2,q,_⟩|⟨_,_,Q⟩
   .exact .inr ⟨k,_,o,d9 g1 g2 q⟩
   .exact .inr ⟨j,x,Q,hx⟩
 have hμ:∀j x,μ j=some x->(∀R J,x≠BQ R J)->d j=some x:=by
  intro j x f hx;have b9:j≠k:=λe=>by subst e;rw[o]at f;exact hx _ _ (Km f).symm
  have G:j<L:=by
   rcases Nd j L with H|H
   .exact H
   .rw[h.fresh j H]at f;cases f
  rw[m4 j b9 G];exact f
 have hf:∀j W qs2,μ j=some (BQ W qs2)->∃S qs',d j=some (BQ S qs')/\∀(i:Nat) (p:Value),W[i]?=some p->S[i]?=some p:=by
  intro j W qs2 f;by_cases e:j=k
  .subst e;rw[o]at f;obtain⟨rfl,rfl⟩:=PW (Km f);exact⟨_,_,m1,λ_ _ h=>h⟩
  .have G:j<L:=by
    rcases Nd j L with H|H
    .exact H
    .rw[h.fresh j H]at f;cases f
   exact⟨_,_,(m4 j e G).trans f,λ_ _ h=>h⟩
 have hd:∀s v,D w (held A μ) μ s v->D w (held A d) d s v:=λs v h=>h.shift be hμ hf;refine⟨d,⟨λj x f=> ?_,λj K x x' c f Q hx cx=> ?_,λj x c f hx=> ?_,h.own.bnd⟩,h.fr,h.base,λg s hg=>⟨(h.glo g s hg).1,hd _ _ (h.glo g s hg).2⟩,h.dfr,h.size,(h.env.shift hd).add (by rw[hv];exact .own m2),λj f=> ?_,λj x hx=> ?_⟩
 .rcases bh f with⟨rfl,rfl⟩|⟨rfl,rfl⟩|⟨G,M⟩|⟨b9,G,Q⟩
  .refine⟨.fam T Z n (some (i,L)) F,by rw[Jt (by simpa using nj)];simp[nj,L],R,J.set i [],rfl,⟨P.pl,by simp[P.ql],λY j1 i2 j2 C l u1 u2 c g1 g2 q O g5 g6=> ?_,λY dj=> ?_⟩,λN c' e=>by cases e;exact⟨_,R6,m2⟩⟩
   .exact P.nd Y j1 i2 j2 C l u1 u2 c (WK g1 g2).2 g2 q (WK O g5).2 g5 g6
   .obtain⟨b1,C,g1,g2,q⟩:=P.mem Y dj;by_cases e:i=Y
    .subst e;exact⟨b1,[],g1,Hf,.inl ⟨rfl,rfl⟩⟩
    .refine⟨b1,C,g1,Hg,.inr ⟨λe'=>e (Km e'),?_⟩⟩;rcases q with⟨q,_⟩|⟨_,us3,e3,O⟩
     .cases q
     .exact⟨us3,e3,O.keep ⟨Jp _,λ_ _ _=>rfl,λc _=>be c⟩ (λ_ _ _ _=>rfl)⟩
  .refine⟨_,by rw[Jy (by simp[L]),Li,L3];rfl,?_⟩;obtain⟨b2,vs,e2,hh,hl,c7,hD⟩:=V.cells;cases e2;refine⟨b,vs,rfl,hh,Ef,c7,λj s v hs hv=> ?_⟩;simp only[Iy]at hs;obtain⟨s0,c6,rfl⟩:=hs;have Zy:=hD j s0 v c6 hv;have wm:=Jr.1 V.memc s0 (Jn c6);refine Xr be (λkk jj x pz hx=> ?_) Zy;simp only[Ka]at pz;subst pz;rw[m3 _ Dz,show L+1+kk-L-1=kk from Dz];exact hx
  .obtain⟨t,r,g1,g2,q⟩:=b7 _ _ M;refine⟨.row t.1 t.2 r.1 r.2 none,?_,q.shift (λs v t6 hs=>IK be hs t6)⟩;rw[Jy (by simp[L]at G⊢;omega),Li,show j-st.own.length=(j-L-1)+1 by simp only[L]at G⊢;omega,M0];have rt:j-L-1<(Qa Z y).length:=by rw[b0k _ _ bb];exact(Jk.1 g1).1
   obtain⟨t',r',k1,k2,k3⟩:=b6v Z y _ _ (Jh rt);rw[g1]at k1;rw[g2]at k2;cases k1;cases k2;rw[Jh rt,k3]
  .obtain⟨bl,e,ba⟩:=h.own.blk j x Q;refine⟨bl,?_,ba.shift be hμ hf⟩;rw[Jt (by simpa[L]using G),Jz (Ne.symm b9)];exact e
 .rcases B f hx with⟨Y,j1,C,u1,g1,g2,q,O⟩|⟨g1,g2,q⟩<;>rcases B Q cx with⟨i2,j2,l,u2,k1,k2,k3,k4⟩|⟨k1,k2,k3⟩
  .obtain⟨rfl,rfl⟩:=P.nd Y j1 i2 j2 C l u1 u2 c g1 g2 q k1 k2 k3;rcases O with⟨rfl,O⟩|⟨rfl,O⟩<;>rcases k4 with⟨rfl,k4⟩|⟨rfl,k4⟩
   .rfl
   .exact absurd k4 O
   .exact absurd O k4
   .rfl
  .exact absurd (h.own.inj K k x' _ c k3 o cx (d9 g1 g2 q)) k1
  .exact absurd (h.own.inj j k x _ c q o hx (d9 k1 k2 k3)) g1
  .exact h.own.inj j K x x' c q k3 hx cx
 .rcases B f hx with⟨Y,j1,C,u1,g1,g2,q,_⟩|⟨_,_,q⟩
  .exact h.own.rng k _ c o (d9 g1 g2 q)
  .exact h.own.rng j x c q hx
 .simp only[K8,Li,Kz,b0k _ _ bb]at f;rw[m3 j (by simp only[L];omega)];exact Ly (by rw[V.len];simp only[L];omega)
 .have b9:j≠k:=λe=>Hd;have:=h.anc j x hx;have G:j<L:=by
   rcases Nd j L with H|H
   .exact H
   .rw[h.fresh j H]at this;cases this
  rw[m4 j b9 G];exact this
end
def selOK(E:Env)(own:List Blk)(ks:List Nat):Bool:=SZ ks&&ks.all (λk=>decide (k<own.length))&&decide (E.na<=ks.length)&&(List.range E.na).all λj=>ks.getD j 0==j
def gSel(E:Env)(ks:List Nat)(st:St):Option (Prop×St):=
 if selOK E st.own ks=true then some (True,⟨st.ρ.map λe=>{e with sv:=e.sv.ren2 λk=>BU k ks},ks.map λk=>(st.own.getD k .dead).ren λk=>BU k ks⟩)else none
section
variable{E:Env}{B0:Nat}{X A:Nat->Prop}{w0:World}{nt:Nat}{st:St}{a:Act}{w:World}{μ:Mu}
theorem d1h(h:SD E B0 X A w0 nt st a w μ){ks:List Nat}{r:Prop}{m:St}(l:gSel E ks st=some (r,m)):∃c,SD E B0 X A w0 nt m a w c:=by
 unfold gSel at l;split at l;rotate_left
 .cases l
 rename_i y;simp only[Iv]at l;obtain⟨_,rfl⟩:=l;simp only[selOK,J3]at y;obtain⟨⟨⟨mt,bw⟩,tf⟩,C⟩:=y;have z:=b12 mt;let c:Mu:=λj=>(ks[j]?).bind μ
 have n:∀{j x},c j=some x->∃k,ks[j]?=some k/\μ k=some x:=λd=>by simpa[c,Js]using d
 have u:∀k j x,BU k ks=some j->μ k=some x->c j=some x:=λk j x d i=>by have:=Qx d;simp[c,this,i]
 have o:∀b,held A c b->held A μ b:=by
  rintro b (v|⟨j,x,d,hx⟩)
  .exact .inl v
  .obtain⟨k,_,i⟩:=n d;exact .inr ⟨k,x,i,hx⟩
 refine⟨c,⟨λj x d=> ?_,λj j' x F b d G hx H=> ?_,λj x b d hx=> ?_,h.own.bnd⟩,h.fr,h.base,λg s hs=>⟨(h.glo g s hs).1,IK o (h.glo g s hs).2 (h.glo g s hs).1⟩,h.dfr,h.size,λt e l=> ?_,λj d=> ?_,λj x hx=> ?_⟩
 .obtain⟨k,i,hx⟩:=n d;obtain⟨I,e,v⟩:=h.own.blk k x hx;refine⟨I.ren λk=>BU k ks,?_,v.ren o u⟩;simp[i,e]
 .obtain⟨k,i,J⟩:=n d;obtain⟨K,L,M⟩:=n G;have:=h.own.inj k K x F b J M hx H;subst this;have N:=b1d z i;have B:=b1d z L;rw[N]at B;cases B;rfl
 .obtain⟨k,_,i⟩:=n d;exact h.own.rng k x b i hx
 .rw[VS (f:=λ(e:Entry)=>{e with sv:=e.sv.ren2 λk=>BU k ks}) (λ_=>rfl),Jq]at l;obtain⟨O,P,rfl⟩:=l;have:=h.env t O P;unfold DE at this⊢;simp only;split at this
  .exact b1i o u this
  .exact⟨λq=>b1i o u (this.1 q),this.2⟩
 .simp only[Kh]at d;have:ks[j]?=none:=Ly d;simp[c,this]
 .have Q:=Env.ak_lt (Env.an_ak hx);have d:=Jr.1 C j (by simpa using Q);have R:ks[j]?=some j:=by
   rw[Jh Dz];simp only[Mc,J8,Jh (show j<ks.length from Dz)]at d;rw[d]
  simp only[c,R,M7];exact h.anc j x hx
end
def c5k(m:Nat)(T:TypeId)(b:List (TypeId×Nat))(st:St):Option (Prop×St):=match st.own[m]? with
 |some (.map K false a _)=>some (∀q,a q=false,⟨st.ρ,st.own.set m (.pmap K st.own.length (λ_=>false) (λ_=>0))++[.fam T b 0 none (λ_=>⟨[],[]⟩)]⟩)
 |_=>none
section
variable{E:Env}{B0:Nat}{X A:Nat->Prop}{w0:World}{nt:Nat}{st:St}{a:Act}{w:World}{μ:Mu}
theorem c1n(h:SD E B0 X A w0 nt st a w μ){m:Nat}{T:TypeId}{I:List (TypeId×Nat)}{l:Prop}{n:St}(o:c5k m T I st=some (l,n))(R:l):∃z,SD E B0 X A w0 nt n a w z:=by
 unfold c5k at o;split at o;rotate_left
 .cases o
 rename_i K B val J;simp only[Iv]at o;obtain⟨rfl,rfl⟩:=o;have hmlt:m<st.own.length:=(Jk.1 J).1;have S:=h.fresh st.own.length (Jp _);have U:μ.set st.own.length (BQ [] []) st.own.length=some (BQ [] []):=Eh;have f:∀{j x},μ j=some x->μ.set st.own.length (BQ [] []) j=some x:=λ{j x} d=>by
  unfold Mu.set;split
  .rename_i e;rw[e,S]at d;cases d
  .exact d
 have t:∀{j x},μ.set st.own.length (BQ [] []) j=some x->(j=st.own.length/\x=BQ [] [])\/(j≠st.own.length/\μ j=some x):=by
  intro j x d;unfold Mu.set at d;split at d
  .exact .inl ⟨‹_›,(Km d).symm⟩
  .exact .inr ⟨‹_›,d⟩
 have nohas:∀b,¬CS (BQ [] []) b:=λb k=>by obtain⟨V,u,C,_⟩:=Oc.1 k;simp at C
 have L:∀b,held A (μ.set st.own.length (BQ [] [])) b->held A μ b:=by
  rintro b (k|⟨j,x,d,hx⟩)
  .exact .inl k
  .rcases t d with⟨_,rfl⟩|⟨_,y⟩
   .exact Ca
   .exact .inr ⟨j,x,y,hx⟩
 have M:∀s v,D w (held A μ) μ s v->D w (held A (μ.set st.own.length (BQ [] []))) (μ.set st.own.length (BQ [] [])) s v:=λs v h=>h.shift L (λj x d _=>f d) (λj F G d=>⟨F,G,f d,λ_ _ h=>h⟩);refine⟨_,⟨λj x d=> ?_,λj N x W b d y hx O=> ?_,λj x b d hx=> ?_,h.own.bnd⟩,h.fr,h.base,λg s P=>⟨(h.glo g s P).1,M _ _ (h.glo g s P).2⟩,h.dfr,h.size,h.env.shift M,λj d=> ?_,λj x hx=>f (h.anc j x hx)⟩
 .rcases t d with⟨rfl,rfl⟩|⟨b9,y⟩
  .refine⟨.fam T I 0 none (λ_=>⟨[],[]⟩),E2,[],[],rfl,⟨rfl,rfl,λi j i' N V us' u u' b C=>by simp at C,λi Y=>absurd Y (K5 _)⟩,λi c e=>E8⟩
  .obtain⟨Z,e,k⟩:=h.own.blk j x y;have H:j<st.own.length:=(Jk.1 e).1;by_cases Q:j=m
   .subst Q;rw[J]at e;cases e;obtain⟨r,g,rfl,td,_,_⟩:=k;have:B=λ_=>false:=Nn R;subst this;exact⟨.pmap K st.own.length (λ_=>false) (λ_=>0),by rw[Jt (by simpa using H)];simp[H],⟨_,_,U⟩,r,g,rfl,td,λq hq=>by cases hq⟩
   .refine⟨Z,by rw[Jt (by simpa using H),Jz (Ne.symm Q)];exact e,k.shift L (λj x d _=>f d) (λj F G d=>⟨F,G,f d,λ_ _ h=>h⟩)⟩
 .rcases t d with⟨rfl,rfl⟩|⟨_,g1⟩<;>rcases t y with⟨rfl,rfl⟩|⟨_,g2⟩
  .rfl
  .exact Ca
  .exact absurd O (nohas b)
  .exact h.own.inj j N x W b g1 g2 hx O
 .rcases t d with⟨rfl,rfl⟩|⟨_,g1⟩
  .exact Ca
  .exact h.own.rng j x b g1 hx
 .simp only[J4,Li]at d;unfold Mu.set;rw[Jj Dz];exact C9
end
def YY(own:List Blk):Nat->List (TypeId×Nat)->Option (List (Nat×(Nat->List SV)))
 |_,[]=>some []
 |c,t::a=>match own[c]? with
  |some (.row T b n f _)=>if T=t.1/\b=t.2 then(YY own (c+1) a).map λr=>(n,f)::r else none
  |_=>none
theorem b43{own:List Blk}:∀(ts:List (TypeId×Nat)) (c:Nat) (a:List (Nat×(Nat->List SV))),YY own c ts=some a->a.length=ts.length/\∀(j:Nat) (t:TypeId×Nat),ts[j]?=some t->∃r b,a[j]?=some r/\own[c+j]?=some (.row t.1 t.2 r.1 r.2 b)
 | [],c,a,h=>by simp[YY]at h;subst h;exact⟨rfl,λj t h=>Ec⟩
 |t::ts,c,a,h=>by
  simp only[YY]at h;split at h;rotate_left
  .cases h
  rename_i T sz n f b g;split at h;rotate_left
  .cases h
  rename_i e;obtain⟨rfl,rfl⟩:=e;simp only[Jq]at h;obtain⟨r,i,rfl⟩:=h;obtain⟨h1,k⟩:=b43 ts (c+1) r i;refine⟨Es,λj l ht=> ?_⟩;match j with
  |0=>simp at ht;subst ht;exact⟨(n,f),b,rfl,g⟩
  |j+1=>
   obtain⟨m,d,o,q⟩:=k j l Fg;exact⟨m,d,by simpa using o,by rw[show c+(j+1)=c+1+j from Dz];exact q⟩
def Rp(j:Nat):SV->Bool
 |.osl q=>q==j
 |_=>false
def WY(c m q:Nat):Option Nat:=if EM c m q&&decide (c<q)then some (q-c-1)else none
def c1a(E:Env)(k:Nat)(st:St):Option (Prop×St):=match st.own[k]? with
 |some (.fam T a n (some (i,c)) F)=>match st.own[c]? with
  |some (.cells h g)=>(YY st.own (c+1) a).bind λf=>
   if h=T/\(g.map (SV.ren0 (WY c a.length))).all SV.memc=true/\((List.range a.length).all λj=>(g.map (SV.ren0 (WY c a.length))).any (Rp j))=true/\EM c a.length k=false/\((List.range (a.length+1)).all λd=> !E.ak (c+d))=true/\E.ak k=false then
    some (True,⟨st.ρ.map λe=>{e with sv:=e.sv.uf2 c a.length},
     RY (λq b=>if q=k then .fam T a n none (λj=>if j=i then⟨g.map (SV.ren0 (WY c a.length)),f⟩else F j)else if EM c a.length q=true then .dead else b.uf c a.length) 0 st.own⟩)
   else none
  |_=>none
 |_=>none
section
variable{E:Env}{B0:Nat}{X A:Nat->Prop}{w0:World}{nt:Nat}{st:St}{a:Act}{w:World}{μ:Mu}
theorem b7q(h:SD E B0 X A w0 nt st a w μ){k:Nat}{pre:Prop}{st':St}(J:c1a E k st=some (pre,st')):∃μ',SD E B0 X A w0 nt st' a w μ':=by
 unfold c1a at J;split at J;rotate_left
 .cases J
 rename_i T Z n i c F hk;split at J;rotate_left
 .cases J
 rename_i Tc cs hc;simp only[Js]at J;obtain⟨R,hrows,J⟩:=J;split at J;rotate_left
 .cases J
 rename_i ff;obtain⟨rfl,wm,bw,hkr,jv,s4⟩:=ff;simp only[Iv]at J;obtain⟨_,rfl⟩:=J;obtain⟨r1,r2⟩:=b43 Z (c+1) R hrows;let m:=Z.length
 have M:∀y,EM c m y=true->E.ak y=false:=λy hy=>by simp only[EM,J3]at hy;have:=Jr.1 jv (y-c) Eb;rw[show c+(y-c)=y from Dz]at this;simpa using this
 have S:∀y,st.own.length<=y->μ y=none:=h.fresh;cases hμk:μ k with
 |none=>
  let μ':Mu:=λy=>if EM c m y=true then none else μ y
  have U:∀{y x},μ' y=some x->EM c m y=false/\μ y=some x:=by
   intro y x hy;simp only[μ']at hy;split at hy
   .cases hy
   .exact⟨by simpa using ‹¬ EM c m y=true›,hy⟩
  have bg:∀{y},EM c m y=false->μ' y=μ y:=λhy=>by simp[μ',hy]
  have V:∀b,held A μ' b->held A μ b:=by
   rintro b (hb|⟨y,x,hy,hx⟩)
   .exact .inl hb
   .exact .inr ⟨y,x,(U hy).2,hx⟩
  have dp:Drop c m (held A μ) (held A μ') μ μ':=⟨V,λy x hy hx _=>by rw[bg hy];exact hx,λy W K hy hx=>⟨W,K,by rw[bg hy];exact hx,λ_ _ h=>h⟩⟩
  refine⟨μ',⟨λy x hy=> ?_,λy y' x O b hy ju=>h.own.inj y y' x O b (U hy).2 (U ju).2,λy x b hy=>h.own.rng y x b (U hy).2,h.own.bnd⟩,h.fr,h.base,λg s L=>⟨(h.glo g s L).1,IK V (h.glo g s L).2 (h.glo g s L).1⟩,h.dfr,h.size,h.env.drop dp,λy hy=> ?_,λy x hx=> ?_⟩
  .obtain⟨ww,hy2⟩:=U hy;obtain⟨bl,e,hb⟩:=h.own.blk y x hy2;have W7:y≠k:=λe=>by subst e;rw[hμk]at hy2;cases hy2
   refine⟨bl.uf c m,?_,hb.drop dp⟩;rw[Yn,e];simp only[L9,Ks];rw[Jj W7,Jj (by rw[show EM c Z.length y=EM c m y from rfl,ww];simp)]
  .rw[UY]at hy;simp only[μ'];split
   .rfl
   .exact S y hy
  .have:EM c m y=false:=by
    cases hh:EM c m y with
    |false=>rfl
    |true=>have:=M y hh;rw[Env.an_ak hx]at this;cases this
   rw[bg this];exact h.anc y x hx
 |some xk=>
 obtain⟨bl,e,ba⟩:=h.own.blk _ _ hμk;rw[hk]at e;cases e;obtain⟨W,K,rfl,db,hhole⟩:=ba;obtain⟨p,R6,Y⟩:=hhole i c rfl;simp only[Ks]at db;have hi:i<n:=by rw[<-db.pl];exact(Jk.1 R6).1
 have bp:i<K.length:=by rw[db.ql];exact hi
 obtain⟨bl,e,hokc⟩:=h.own.blk _ _ Y;rw[hc]at e;cases e;obtain⟨b,vs,rfl,hh,hl,c7,hd⟩:=hokc;have hslice:∀j,j<m->∃u,μ (c+1+j)=some u/\(∃a n m,u=.slice a n m):=by
  intro j hj;have h1:=Jr.1 bw j (by simpa[m]using hj);simp only[K1,Jx]at h1;obtain⟨s,⟨s0,c6,rfl⟩,hs⟩:=h1;obtain⟨ii,hii⟩:=Lg.1 c6;have b6:ii<vs.length:=by rw[hl];exact(Jk.1 hii).1
  have hD:=hd ii s0 _ hii (Jh b6);cases s0 with
  |osl q=>
   simp only[SV.ren0,SV.ren00]at hs;split at hs
   .rename_i j' bi;simp only[Rp,Mc]at hs;subst hs;simp only[WY]at bi;split at bi
    .rename_i hq;simp only[J3]at hq;cases bi;have Zy:=hD;generalize vs[ii]=vv at Zy;cases Zy with
     |osl ku=>exact⟨_,by rw[show c+1+(q-c-1)=q from Dz];exact ku,_,_,_,rfl⟩
    .cases bi
   .simp[Rp]at hs
  |own q o=>simp only[SV.ren0,SV.ren00]at hs;split at hs<;>simp[Rp]at hs
  |omp q=>simp only[SV.ren0,SV.ren00]at hs;split at hs<;>simp[Rp]at hs
  |oel q sz x o=>simp only[SV.ren0,SV.ren00]at hs;split at hs<;>simp[Rp]at hs
  |fp ok q x o=>simp only[SV.ren0,SV.ren00]at hs;split at hs<;>simp[Rp]at hs
  |clo f cs'=>simp[SV.ren0,Rp]at hs
  |_=>simp[SV.ren0,SV.ren00,Rp]at hs
 let I:List Value:=(List.range m).map λj=>(μ (c+1+j)).getD undef
 have mh:∀j u,I[j]?=some u↔j<m/\μ (c+1+j)=some u:=by
  intro j u;simp only[I,K9];constructor
  .intro hj;simp only[Jq]at hj;obtain⟨y,hy,rfl⟩:=hj;obtain⟨ww,rfl⟩:=Jk.1 hy;simp only[List.length_range]at ww;simp only[List.getElem_range];obtain⟨u,hu,_⟩:=hslice j ww;exact⟨ww,by rw[hu];rfl⟩
  .rintro⟨h1,P⟩;rw[Jh Fn];simp[P]
 let l:List Value:=.pointer (some ⟨b,0,none⟩)::I
 let μ':Mu:=λy=>if y=k then some (BQ W (K.set i l))else if EM c m y=true then none else μ y
 have m1:μ' k=some (BQ W (K.set i l)):=by simp[μ']
 have m3:∀y,y≠k->EM c m y=false->μ' y=μ y:=λy h1 P=>by simp[μ',h1,P]
 have U:∀{y x},μ' y=some x->(y=k/\x=BQ W (K.set i l))\/(y≠k/\EM c m y=false/\μ y=some x):=by
  intro y x hy;by_cases e1:y=k
  .exact Df
  .cases C:EM c m y with
   |true=>simp[μ',e1,C]at hy
   |false=>rw[m3 y e1 C]at hy;exact .inr ⟨e1,rfl,hy⟩
 have fu:∀(j:Nat) (u:Value) (d:Nat),l[j]?=some u->FO u=some d->j<=m/\∃x,μ (c+j)=some x/\CS x d:=by
  intro j u d h1 P;match j with
  |0=>
   simp only[l,Nb,Ka]at h1;subst h1;exact⟨Jw _,_,Y,.inl P⟩
  |j+1=>
   simp only[l,M0]at h1;obtain⟨h3,h4⟩:=(mh j u).1 h1;exact⟨h3,u,by rw[show c+(j+1)=c+1+j from Dz];exact h4,.inl P⟩
 have P5:∀{j},j<=m->EM c m (c+j)=true:=λhj=>by simp[EM];omega
 have dm:∀{Q us},(K.set i l)[Q]?=some us->(Q=i/\us=l)\/(Q≠i/\K[Q]?=some us):=by
  intro Q us L;by_cases e:i=Q
  .subst e;rw[Kv bp]at L;exact .inl ⟨rfl,(Km L).symm⟩
  .rw[Jz e]at L;exact .inr ⟨Ne.symm e,L⟩
 have d9:∀{Q j' N u d},K[Q]?=some N->N[j']?=some u->FO u=some d->CS (BQ W K) d:=λg1 G B=>Oc.2 ⟨_,_,Jn g1,Jn G,B⟩;have H:∀{y x d},μ' y=some x->CS x d->(y=k/\CS (BQ W K) d)\/(y=k/\∃z O,EM c m z=true/\μ z=some O/\CS O d)\/(y≠k/\EM c m y=false/\μ y=some x):=by
  intro y x d hy hx;rcases U hy with⟨rfl,rfl⟩|h3
  .obtain⟨N,u,g1,G,B⟩:=Oc.1 hx;obtain⟨Q,b8⟩:=Lg.1 g1;obtain⟨j',bi⟩:=Lg.1 G;rcases dm b8 with⟨rfl,rfl⟩|⟨_,g4⟩
   .obtain⟨g5,O,g6,g7⟩:=fu j' u d bi B;exact .inr (.inl ⟨rfl,_,O,P5 g5,g6,g7⟩)
   .exact .inl ⟨rfl,d9 g4 bi B⟩
  .exact .inr (.inr h3)
 have V:∀d,held A μ' d->held A μ d:=by
  rintro d (fq|⟨y,x,hy,hx⟩)
  .exact .inl fq
  .rcases H hy hx with⟨_,h1⟩|⟨_,z,O,_,h1,P⟩|⟨_,_,h3⟩
   .exact .inr ⟨k,_,hμk,h1⟩
   .exact .inr ⟨z,O,h1,P⟩
   .exact .inr ⟨y,x,h3,hx⟩
 have dp:Drop c m (held A μ) (held A μ') μ μ':=by
  refine⟨V,λy x hy hx Zi=> ?_,λy ps2 qs2 hy hx=> ?_⟩
  .have C:y≠k:=λe=>I9;rw[m3 y C hy];exact hx
  .by_cases C:y=k
   .subst C;rw[hμk]at hx;obtain⟨rfl,rfl⟩:=PW (Km hx);exact⟨_,_,m1,λ_ _ h=>h⟩
   .exact⟨ps2,qs2,(m3 y C hy).trans hx,λ_ _ h=>h⟩
 have X3:∀z,EM c m z=true->z≠k:=λz hz e=>by subst e;rw[show EM c m z=EM c Z.length z from rfl,hkr]at hz;cases hz
 refine⟨μ',⟨λy x hy=> ?_,λy y' x O d hy ju hx cx=> ?_,λy x d hy hx=> ?_,h.own.bnd⟩,h.fr,h.base,λg s L=>⟨(h.glo g s L).1,IK V (h.glo g s L).2 (h.glo g s L).1⟩,h.dfr,h.size,h.env.drop dp,λy hy=> ?_,λy x hx=> ?_⟩
 .rcases U hy with⟨rfl,rfl⟩|⟨W7,hyr,ju⟩
  .refine⟨.fam Tc Z n none (λj=>if j=i then⟨cs.map (SV.ren0 (WY c Z.length)),R⟩else F j),by rw[Yn,hk];simp,W,K.set i l,rfl,⟨db.pl,by simp[db.ql],λi1 j1 i2 j2 us1 N u1 u2 d g1 G B g4 g5 g6=> ?_,λi1 dj=> ?_⟩,λi c e=>E8⟩
   .rcases dm g1 with⟨rfl,rfl⟩|⟨e1,k1⟩<;>rcases dm g4 with⟨rfl,rfl⟩|⟨C,k4⟩
    .obtain⟨a1,x1,a2,a3⟩:=fu j1 u1 d G B;obtain⟨b1,x2,b2,b3⟩:=fu j2 u2 d g5 g6;have:=h.own.inj _ _ x1 x2 d a2 b2 a3 b3;exact⟨rfl,Dz⟩
    .obtain⟨a1,x1,a2,a3⟩:=fu j1 u1 d G B;exact absurd (h.own.inj _ _ x1 _ d a2 hμk a3 (d9 k4 g5 g6)) (X3 _ (P5 a1))
    .obtain⟨a1,x1,a2,a3⟩:=fu j2 u2 d g5 g6;exact absurd (h.own.inj _ _ x1 _ d a2 hμk a3 (d9 k1 G B)) (X3 _ (P5 a1))
    .exact db.nd i1 j1 i2 j2 us1 N u1 u2 d k1 G B k4 g5 g6
   .obtain⟨b1,us1,g1,G,B⟩:=db.mem i1 dj;by_cases e:i1=i
    .subst e;rw[R6]at g1;cases g1;refine⟨b,l,R6,Hf,.inr ⟨E2,I,rfl,?_⟩⟩;rw[Ji rfl];refine⟨⟨b,vs,rfl,hh,Ef,c7,λj s v hs hv=> ?_⟩,wm,by simp[I,m],r1,λj t r u h1 P h3=> ?_⟩
     .simp only[Iy]at hs;obtain⟨s0,c6,rfl⟩:=hs;refine Xr V (λkk jj x pz hx=> ?_) (hd j s0 v c6 hv);simp only[WY]at pz;split at pz
      .rename_i hq;simp only[EM,J3]at hq;cases pz;exact(mh _ _).2 ⟨by simp only[m];omega,by rw[show c+1+(kk-c-1)=kk from Dz];exact hx⟩
      .cases pz
     .obtain⟨h4,h5⟩:=(mh j u).1 h3;obtain⟨r',cp,h6,h7⟩:=r2 j t h1;rw[P]at h6;cases h6;obtain⟨bl,e,hb⟩:=h.own.blk _ _ h5;rw[show c+1+j=c+1+j from rfl,h7]at e;cases e;have:=JW.shift (μ':=loc I) (λs v hp hs=>IK V hs hp) hb;obtain⟨a1,a2,a3,a4,a5,a6,a7,a8⟩:=this;exact⟨a1,a2,a3,a4,a5,.inl rfl,a7,a8⟩
    .refine⟨b1,us1,g1,by rw[Jz (Ne.symm e)];exact G,.inr ⟨E2,?_⟩⟩;rw[Jj e];rcases B with⟨B,_⟩|⟨_,us3,e3,g4⟩
     .exact absurd (Km B).symm e
     .exact⟨us3,e3,g4.keep ⟨Jp _,λ_ _ _=>rfl,λd _=>V d⟩ (λ_ _ _ _=>rfl)⟩
  .obtain⟨bl,e,hb⟩:=h.own.blk y x ju;refine⟨bl.uf c m,?_,hb.drop dp⟩;rw[Yn,e];simp only[L9,Ks];rw[Jj W7,Jj (by rw[show EM c Z.length y=EM c m y from rfl,hyr];simp)]
 .rcases H hy hx with⟨e1,g1⟩|⟨e1,z,xz,g1,G,B⟩|⟨e1,e1',g1⟩<;>rcases H ju cx with⟨C,k1⟩|⟨C,z',xz',k1,k2,k3⟩|⟨C,e2',k1⟩
  .omega
  .omega
  .exact absurd (h.own.inj y' k _ _ d k1 hμk cx g1) C
  .omega
  .omega
  .have:=h.own.inj y' z _ _ d k1 G cx B;subst this;rw[g1]at e2';cases e2'
  .exact absurd (h.own.inj y k _ _ d g1 hμk hx k1) e1
  .have:=h.own.inj y z' _ _ d g1 k2 hx k3;subst this;rw[k1]at e1';cases e1'
  .exact h.own.inj y y' x O d g1 k1 hx cx
 .rcases H hy hx with⟨e1,g1⟩|⟨e1,z,xz,g1,G,B⟩|⟨e1,e1',g1⟩
  .exact h.own.rng k _ d hμk g1
  .exact h.own.rng z _ d G B
  .exact h.own.rng y x d g1 hx
 .rw[UY]at hy;have nj:k<st.own.length:=(Jk.1 hk).1;simp only[μ'];rw[Jj Dz];split
  .rfl
  .exact S y hy
 .have e1:y≠k:=λe=>Hd;have C:EM c m y=false:=by
   cases hh:EM c m y with
   |false=>rfl
   |true=>have:=M y hh;rw[Env.an_ak hx]at this;cases this
  rw[m3 y e1 C];exact h.anc y x hx
end
def g45(k:Nat)(st:St):Option (Prop×St):=match st.own[k]? with
 |some (.rowh T a n f c i u)=>if u.all SV.pure then some (True,⟨st.ρ,st.own.set k (.row T a n (λq=>EN (decide (q=i)) u (f q)) c)⟩)else none
 |_=>none
section
variable{E:Env}{B0:Nat}{X A:Nat->Prop}{w0:World}{nt:Nat}{st:St}{a:Act}{w:World}{μ:Mu}
theorem c65(h:SD E B0 X A w0 nt st a w μ){k:Nat}{l:Prop}{g:St}(d:g45 k st=some (l,g)):SD E B0 X A w0 nt g a w μ:=by
 unfold g45 at d;split at d;rotate_left
 .cases d
 rename_i T sz n f c i u t;split at d;rotate_left
 .cases d
 rename_i C;simp only[Iv]at d;obtain⟨_,rfl⟩:=d;have F:k<st.own.length:=(Jk.1 t).1;refine⟨⟨λj x hj=> ?_,h.own.inj,h.own.rng,h.own.bnd⟩,h.fr,h.base,h.glo,h.dfr,h.size,h.env,λj hj=>h.fresh j Er,h.anc⟩;obtain⟨G,e,y⟩:=h.own.blk j x hj;by_cases z:j=k
 .subst z;rw[t]at e;cases e;refine⟨_,by rw[Kv F],?_⟩;obtain⟨b,o,m,H,rfl,I,J,K,hi,L,M,N,O,P,Q,R⟩:=y;refine DX.row_weak (f:=λq=>if q=i then u else f q) (λq=>by have:=b2t (decide (q=i)) u (f q);simpa only[Ju]using this) ⟨_,m,rfl,I,J,K,λq r=> ?_,.inr ⟨b,o,H,Dz,rfl,N,O,P,λq j s v r hs B=> ?_⟩⟩
  .by_cases e:q=i
   .subst e;simp only[L1];exact⟨L,C⟩
   .simp only[Jj e];exact M q r e
  .by_cases e:q=i
   .subst e;simp only[L1]at hs;exact R j s v hs B
   .simp only[Jj e]at hs;exact Q q j s v r e hs B
 .exact⟨G,by rw[Jz (Ne.symm z)];exact e,y⟩
end
def rdy(ops:Array Oper)(done:List Nat):List Nat:=
 (List.range ops.size).filter λi=> !done.contains i&&((ops[i]?).map (λo=>o.after.toList.all λe=> !Region.binds .any e||done.contains e.on)).getD false
def Wl(P:Program){α:Type}(s:Sem α):Prop:=∀w a c,s.run P w=.ok a c->∀b,s.run P b=.ok a b
section
variable{P:Program}{α β:Type}
theorem Ow(a:α):Wl P (pure a:Sem α):=λw b w1 h w'=>by simp only[Sem.run_pure,Result.ok.injEq]at h⊢;exact⟨h.1,Jm⟩
theorem Oy{s:Sem α}{k:α->Sem β}(e:Wl P s)(f:∀a,Wl P (k a)):Wl P (s >>= k):=λw b w1 h c=>by
 rw[Lh]at h⊢;cases hs:s.run P w with
 |ok a d=>
  rw[hs]at h;rw[e w a d hs c];exact f a _ _ _ h c
 |halt x d=>rw[hs]at h;cases h
theorem UZ(x:Halt):Wl P (Sem.halt x:Sem α):=λw a w1 h=>by simp[Sem.run]at h
theorem b8r:Wl P program:=λw a w1 h w'=>by simp only[program,Sem.run,Result.ok.injEq]at h⊢;exact⟨h.1,Jm⟩
theorem b2n(t:TypeId):Wl P (underlying t):=Oy b8r λp=>by
 split
 .exact Ow _
 .exact UZ _
theorem g2b(t:TypeId):Wl P (typeInfo t):=Oy b8r λp=>by
 split
 .exact Ow _
 .exact UZ _
theorem d81(t:TypeId):Wl P (sizeOf t):=Oy (g2b t) λ_=>Ow _
def Nv(P:Program)(s:Sem α):Prop:=∀w a b,s.run P w≠.ok a b
theorem Nv.wl{s:Sem α}(h:Nv P s):Wl P s:=λw a b e=>absurd e (h w a b)
theorem c0s{s:Sem α}{k:α->Sem β}(h:∀a,Nv P (k a)):Nv P (s >>= k):=λw b w1 e=>by
 rw[Lh]at e;cases hs:s.run P w with
 |ok a c=>rw[hs]at e;exact h a _ _ _ e
 |halt x c=>rw[hs]at e;cases e
theorem d8w(x:Halt):Nv P (Sem.halt x:Sem α):=λw a w1 h=>by simp[Sem.run]at h
theorem nv_rt(e:RuntimeError):Nv P (runtimePanic e:Sem α):=c0s λp=>by
 split;all_goals first
  |exact d8w _
  |exact c0s λ_=>c0s λ_=>d8w _
theorem c22(k:IntKind)(x y:Int)(c:BoundsCode):Wl P (boundsPanic k x y c:Sem α):=by unfold boundsPanic;dsimp only;split;all_goals exact Nv.wl (c0s λ_=>nv_rt _)
theorem c6u(v:Value):Wl P (asIntOf v):=by
 unfold asIntOf;split
 .exact Ow _
 .exact UZ _
 .exact UZ _
theorem d59(v:Value):Wl P (Instr.sureAddr v):=by
 unfold Instr.sureAddr;split
 .exact Ow _
 .exact UZ _
theorem f1a(t:TypeId)(x i:Value):Wl P (Instr.indexAt t x i):=by
 unfold Instr.indexAt;refine Oy (c6u _) λq=>Oy (b2n _) λd=> ?_;dsimp only;repeat' first
  |exact Ow _
  |exact UZ _
  |exact c22 _ _ _ _
  |exact d59 _
  |exact b2n _
  |exact d81 _
  |refine Oy ?_ λ_=> ?_
  |split
theorem f0n(x:Value)(y:Nat)(c:BoundsCode):Wl P (Instr.sliceBound x y c):=by
 unfold Instr.sliceBound;refine Oy (c6u _) λq=> ?_;dsimp only;repeat' first
  |exact Ow _
  |exact c22 _ _ _ _
  |split
theorem d1g(b:Bool)(n m:Nat)(lo hi mx:Option Value):Wl P (Instr.sliceBounds b n m lo hi mx):=by
 unfold Instr.sliceBounds;dsimp only;repeat' first
  |exact Ow _
  |exact UZ _
  |exact f0n _ _ _
  |refine Oy ?_ λ_=> ?_
  |split
def XC(P:Program)(o:Oper):Bool:=match o.guard with
 |some _=>false
 |none=>match o.op with
  |.move _=>true
  |.indexAddr _ _ _=>true
  |.slice t _ _ _ _=>match P.underlying t with
   |some (.slice _)=>true
   |_=>false
  |.fieldAddr s _ f=>match P.underlying s with
   |some (.struct a)=>match a[f]? with
    |some b=>match P.info? b.type with
     |some i=> !Nat.beq i.size 0
     |none=>false
    |none=>false
   |_=>false
  |_=>false
theorem c5f{t:TypeId}{d:TypeDesc}{w:World}(h:P.underlying t=some d):(underlying t).run P w=.ok d w:=by simp[underlying,program,Sem.run,h,Result.andThen]
theorem f4d{s:TypeId}{x:Value}{f:Nat}{fs:Array Field}{b:Field}{i:TypeInfo}(e:P.underlying s=some (.struct fs))(g:fs[f]?=some b)(j:P.info? b.type=some i)(k:i.size≠0):Wl P (Instr.fieldAt s x f):=by
 intro w a d h c;unfold Instr.fieldAt at h⊢;rw[Lh,c5f e]at h⊢;simp only[Result.andThen,g]at h⊢;have:Wl P (do let a<-Instr.sureAddr x;pure (.pointer (some (<-fieldPlace a b))):Sem Value):=by refine Oy (d59 _) λq=>Oy ?_ λ_=>Ow _;intro w a d h c;unfold fieldPlace at h⊢;rw[Lh,IP j]at h⊢;simp only[Result.andThen,Jj k]at h⊢;exact Ow _ _ _ _ h c
 exact this w a d h c
theorem f2h{t e:TypeId}{x:Value}{lo hi mx:Option Value}(c:P.underlying t=some (.slice e)):Wl P (Instr.sliceAt t x lo hi mx):=by
 intro w a d h b;unfold Instr.sliceAt at h⊢;rw[Lh,c5f c]at h⊢;simp only[Result.andThen]at h⊢;have:Wl P (Instr.slice t x lo hi mx):=by
  intro w a d h b;unfold Instr.slice at h⊢;rw[Lh,c5f c]at h⊢;simp only[Result.andThen]at h⊢;cases x
  case slice a n m=>exact(Oy (d1g _ _ _ _ _ _) λq=>Oy (d81 _) λ_=>Ow _:Wl P _) _ _ _ h b
  all_goals simp[stuck]at h
 exact this w a d h b
theorem d4r{o:Oper}(a:XC P o=true){ev:Operand->Value}{w:World}:(∃v,∀c,(execOp ev o).run P c=.ok (.value v) c)\/∃x d,(execOp ev o).run P w=.halt x d:=by
 have b:∀{s:Sem Value},Wl P s->execOp ev o=(do pure (.value (<-s)))->(∃v,∀c,(execOp ev o).run P c=.ok (.value v) c)\/∃x d,(execOp ev o).run P w=.halt x d:=by
  intro s hs e;rw[e,Lh];cases hr:s.run P w with
  |ok v d=>
   refine .inl ⟨v,λc=> ?_⟩;rw[Lh,hs _ _ _ hr c];simp[Result.andThen]
  |halt x d=>exact .inr ⟨x,d,rfl⟩
 unfold XC at a;split at a
 .cases a
 split at a
 .rename_i x da;exact b (s:=pure (ev x)) (Ow _) Gs
 .rename_i t x i da;exact b (f1a t (ev x) (ev i)) Gs
 .rename_i t x lo hi mx da;split at a
  .rename_i e g;exact b (f2h (lo:=lo.map ev) (hi:=hi.map ev) (mx:=mx.map ev) (x:=ev x) g) Gs
  .cases a
 .rename_i s x f da;split at a
  .rename_i fs j;split at a
   .rename_i fd k;split at a
    .rename_i i l;refine b (f4d (x:=ev x) j k l ?_) Gs;intro e;rw[e]at a;cases a
    .cases a
   .cases a
  .cases a
 .cases a
end
def Vv(ops:Array Oper)(x:Oper)(i:Nat):List Oper->Nat->Bool
 | [],_=>true
 |y::r,j=>(Nat.beq j i||FK y i||FK x j||x.apart ops y)&&Vv ops x i r (j+1)
def Uc(P:Program)(ops:Array Oper):List Oper->Nat->List Nat
 | [],_=>[]
 |x::r,i=>match XC P x&&Vv ops x i ops.toList 0 with
  |true=>i::Uc P ops r (i+1)
  |false=>Uc P ops r (i+1)
def f3z:List Oper->Bool
 | []=>true
 |o::r=>match o.op with
  |.select _ _=>false
  |_=>f3z r
theorem c20:∀{l:List Oper},f3z l=true->∀o∈l,∀a b,o.op≠.select a b
 | [],_,o,h,_,_=>E9
 |x::r,c,o,h,a,b=>by
  unfold f3z at c;split at c
  .cases c
  .rename_i hx;rcases Jv.1 h with rfl|h
   .exact λe=>hx a b e
   .exact c20 c o h a b
def d6w(P:Program)(ops:Array Oper):List Nat:=match f3z ops.toList with
 |true=>Uc P ops ops.toList 0
 |false=>[]
theorem b85{ops:Array Oper}{x:Oper}{i:Nat}:∀{l:List Oper} {n:Nat},Vv ops x i l n=true->∀{j y},l[j]?=some y->n+j≠i->FK y i=true\/FK x (n+j)=true\/x.apart ops y=true
 | [],_,_,_,_,h=>Ec
 |z::r,n,a,j,y,h=>by
  unfold Vv at a;rw[Ke]at a;intro b;cases j with
  |zero=>
   simp only[Nb,Ka]at h;subst h;simp only[Kp,Nat.beq_eq]at a;rcases a.1 with((h|h)|h)|h
   .exact absurd h b
   .exact .inl h
   .exact .inr (.inl h)
   .exact .inr (.inr h)
  |succ j=>
   have:=b85 a.2 (j:=j) (y:=y) E6 Dz;rw[show n+1+j=n+(j+1)from Dz]at this;exact this
theorem b7b{P:Program}{ops:Array Oper}:∀{l:List Oper} {n i:Nat},i∈Uc P ops l n->∃x,n<=i/\l[i-n]?=some x/\XC P x=true/\Vv ops x i ops.toList 0=true
 | [],_,_,h=>by simp[Uc]at h
 |z::r,n,i,h=>by
  have a:i∈Uc P ops r (n+1)->∃x,n<=i/\(z::r)[i-n]?=some x/\XC P x=true/\Vv ops x i ops.toList 0=true:=λh=>by obtain⟨x,h1,c,d⟩:=b7b h;refine⟨x,Dz,?_,d⟩;rw[show i-n=(i-(n+1))+1 from Dz];simpa using c
  unfold Uc at h;split at h
  .rename_i b;rcases Jv.1 h with rfl|h
   .rw[Ke]at b;exact⟨z,Jp _,E2,b.1,b.2⟩
   .exact a h
  .exact a h
def nxt(ops:Array Oper)(q done:List Nat):List Nat:=match (rdy ops done).find? (λi=>q.contains i)with
 |some i=>[i]
 |none=>rdy ops done
def andL:List Nat->(Nat->Prop)->Prop
 | [],_=>True
 |i::r,f=>f i/\andL r f
theorem c83{f:Nat->Prop}:∀{l:List Nat},andL l f->∀i∈l,f i
 | [],_,i,a=>by simp at a
 |x::r,h,i,a=>by
  rcases Jv.1 a with rfl|a
  .exact h.1
  .exact c83 h.2 i a
def anyK(E:Env)(nt:Nat)(ops:Array Oper)(q:List Nat)(K:St->Prop):Nat->List Nat->St->Prop
 |0,done,a=>match rdy ops done with
  | []=>K a
  |_::_=>False
 |f+1,done,a=>Wj (nxt ops q done) λl=>match l with
  | []=>K a
  |i::r=>andL (i::r) λi=>match ops[i]? with
   |some o=>TO E o (λa=>match f2x E nt ops a o with
    |some (p,b)=>LI p/\b.forceO o (anyK E nt ops q K f (i::done))
    |none=>False) a
   |none=>False
def anyQ(E:Env)(nt:Nat)(ops:Array Oper)(K:St->Prop)(st:St):Prop:=Wj (d6w E.P ops) λq=>anyK E nt ops q K ops.size [] st
structure Rel (ops:Array Oper) (listed:Array Bool) (done:List Nat):Prop where
 size:listed.size=ops.size
 get:∀i,i<ops.size->listed[i]?=some (done.contains i)
 lt:∀i∈done,i<ops.size
theorem f7r{ops:Array Oper}{listed:Array Bool}{done:List Nat}(h:Rel ops listed done):Region.ready .any ops listed=rdy ops done:=by
 unfold Region.ready rdy;apply List.filter_congr;intro i hi;have b:i<ops.size:=Et;have g:∀j d,listed.getD j d=if j<ops.size then done.contains j else d:=by
  intro j d;split
  .rename_i a;rw[Nf,h.get j a];rfl
  .rename_i a;rw[Nf,Array.getElem?_eq_none (by rw[h.size];omega)];rfl
 rw[g,Ji b];congr 1;congr 1;have c:∀j,listed.getD j false=done.contains j:=by
  intro j;rw[g];split
  .rfl
  .rename_i a;symm;rw[<-Bool.not_eq_true,List.contains_iff_mem];exact λe=>a (h.lt j e)
 cases ops[i]? with
 |none=>rfl
 |some o=>simp only[Ks,c,Array.all_toList]
theorem Rel.next{ops:Array Oper}{listed:Array Bool}{done:List Nat}(h:Rel ops listed done){i:Nat}(hi:i<ops.size):Rel ops (listed.setIfInBounds i true) (i::done):=by
 refine⟨by simp[h.size],λj a=> ?_,λj a=> ?_⟩
 .by_cases e:i=j
  .subst e;rw[Array.getElem?_setIfInBounds_self_of_lt (by rw[h.size];exact hi)];simp
  .rw[Mf e,h.get j a];congr 1;simp only[List.contains_cons];have:(j==i)=false:=by simpa using Ne.symm e
   rw[this,Nm]
 .rcases Jv.1 a with rfl|a
  .exact hi
  .exact h.lt j a
section
variable{E:Env}{B0:Nat}{X A:Nat->Prop}{w0:World}{nt:Nat}
def Vl(R:Exit->Act->World->Prop):Exit->Act->World->Prop
 |.normal,a,w=>R .normal a w
 |_,_,_=>False
theorem d71(hE:EnvOK E)(hC:HF E){ops:Array Oper}{q:List Nat}(hq:∀i∈q,i∈d6w E.P ops){K:St->Prop}{R:Exit->Act->World->Prop}(hR:∀st a w μ,SD E B0 X A w0 nt st a w μ->K st->R .normal a w):
 ∀(f:Nat) (done:List Nat) (listed:Array Bool) (st:St) (a:Act) (w:World) (μ:Mu),SD E B0 X A w0 nt st a w μ->Rel ops listed done->anyK E nt ops q K f done st->wpAny E.P .any ops (Vl R) f listed a w:=by
 intro f;induction f with
 |zero=>
  intro done listed st a w μ h u d;simp only[anyK]at d;unfold wpAny;rw[f7r u];split at d
  .rename_i e;exact⟨e,hR st a w μ h d⟩
  .exact d.elim
 |succ f ih=>
  intro done listed st a w μ h u d;simp only[anyK,b55]at d;have one:∀i∈nxt ops q done,∀o,ops[i]?=some o->∀z:Act->World->Prop,(∀B C,wpAny E.P .any ops (Vl R) f (listed.setIfInBounds i true) B C->z B C)->if Region.wanted o (yielded ops a.tmps)then o.wp E.P a w z (Vl R)else z (a.put o.dst undef) w:=by
   intro i n o l z M;split at d
   .rename_i e;rw[e]at n;cases n
   rename_i i0 r e;rw[e]at n;have N:=c83 d i n;rw[l]at N;simp only at N;obtain⟨st1,μ1,m,F⟩:=b1t h N;split at F;rotate_left
   .exact F.elim
   rename_i p O hs;rw[St.forceO_eq]at F;have b6:i<ops.size:=(K7.1 l).1;exact b0z hE hC m hs F.1.out (K:=z) (Q:=Vl R) (λB C S T=>M B C (ih _ _ O B C S T (u.next b6) F.2))
  have s:=f7r u;unfold nxt at one d;split at one
  .rename_i i hf;have W9:=List.find?_some hf;have U:=List.mem_of_find?_eq_some hf;have I:=hq i (by simpa using W9);unfold d6w at I;split at I;rotate_left
   .cases I
   rename_i V;obtain⟨o,_,l,J,ku⟩:=b7b I;rw[Nat.sub_zero,Lk]at l;have g:=one i E2 o l (wpAny E.P .any ops (Vl R) f (listed.setIfInBounds i true)) (λ_ _ h=>h);have hg:o.guard=none:=by
    unfold XC at J;split at J
    .cases J
    .assumption
   have f9:Region.wanted o (yielded ops a.tmps)=true:=by simp[Region.wanted,hg]
   rw[Ji f9]at g;unfold Oper.wp at g;rcases d4r J (ev:=a.eval) (w:=w)with⟨v,hv⟩|⟨x,w1,hx⟩
   .rw[hv w]at g;refine wpAny_first l (λj o cs b L=>c20 V o (by simpa using Array.mem_of_getElem? L) cs b) (λc a w h=>h) f listed a w (λj oj L b9 W Y=> ?_) (by rw[s];exact U) (.inl ⟨f9,hv⟩) g;have m:=b85 ku (j:=j) (y:=oj) (by rw[Lk];exact L) Dz;rw[L9]at m;have wt:∀{x:Oper} {k:Nat},FK x k=true->∃e∈x.after,Region.binds .any e=true/\e.on=k:=λ{x k} h=>by
     unfold FK at h;rw[K1]at h;obtain⟨e,G,t⟩:=h;rw[Ke,Mc]at t;exact⟨e,by simpa using G,t.1,t.2⟩
    rcases m with m|m|m
    .obtain⟨e,G,t,Z⟩:=wt m;exact absurd Z (Y e G t)
    .obtain⟨e,G,t,Z⟩:=wt m;rw[<-s]at U;obtain⟨_,o',pw,bw⟩:=mem_ready.1 U;rw[l]at pw;cases pw;have H:=bw e G t;rw[Z]at H;have np:=(K7.1 L).1;have h3:=u.get j np;rw[Nf,h3]at W H;simp only[L5]at W H;rw[W]at H;cases H
    .exact m
   .rw[hx]at g;unfold Oper.upon at g;split at g<;>first|exact g.elim|(rename_i e;cases e)
  .unfold wpAny;rw[s];refine⟨λe=> ?_,λi n=> ?_⟩
   .rename_i Y;rw[Y]at d;simp only[e]at d;exact hR st a w μ h d
   .have bp:i<ops.size:=by
     have:=Ki.1 (show i∈(List.range ops.size).filter _ from n);simpa using this.1
    have l:ops[i]?=some ops[i]:=Mm bp;have:=one i n _ l _ (λ_ _ h=>h);unfold wpOp;rw[l];simp only;split
    .rename_i g;rw[Ji g]at this;exact .inl this
    .rename_i g;rw[Jj g]at this;exact this
theorem c1x(k:EnvOK E)(l:HF E)(m:E.P.follows .mixedOrders=true){id:Nat}{ops:Array Oper}{K:St->Prop}{st:St}{a:Act}{w:World}{μ:Mu}(h:SD E B0 X A w0 nt st a w μ)(c:anyQ E nt ops K st){R:Exit->Act->World->Prop}
 (n:∀b g j d,SD E B0 X A w0 nt b g j d->K b->R .normal g j):(Code.region id ops true).wp E.P R a w:=by
 refine Code.wp_mono (Q:=Vl R) (λe a w h=> ?_) (wp_region_any m ?_)
 .cases e<;>first|exact h|exact h.elim
 change wpAny E.P .any ops (Vl R) ops.size (Array.replicate ops.size false) a w.drew;unfold anyQ at c;rw[b55]at c;refine d71 k l (λi f=>f) n ops.size [] _ st a w.drew μ ⟨h.own.drew,h.fr.trans Fr.drew,h.base,NW Keeps.drew h.glo,h.dfr,h.size,h.env.keep Keeps.drew,h.fresh,h.anc⟩ ⟨E2,λi f=>by simp[f],E2⟩ c
end
structure Post where
 n:St->Prop
 x:Nat->St->Prop
 r:St->Prop
inductive NL where
 |slot (t:Nat) (T:TypeId) (sz:Nat)
 |cell (k o:Nat) (T:TypeId) (sz:Nat)
def f51:SV->Bool
 |.con (.slice none 0 0)=>true
 |_=>false
theorem c8a{s:SV}(h:f51 s=true):s=.con (.slice none 0 0):=by
 unfold f51 at h;split at h
 .rfl
 .cases h
def YT(n:NL)(st:St):St:=match n with
 |.slot t T a=>match CO t st.ρ with
  |some e=>match e.guard with
   |none=>match f51 e.sv with
    |true=>⟨⟨t,none,.osl st.own.length⟩::st.ρ,st.own++[.row T a 0 (λ_=>[]) none]⟩
    |false=>st
   |some _=>st
  |none=>st
 |.cell k o T a=>match st.own[k]? with
  |some (.cells c b)=>match b[o]? with
   |some s=>match f51 s with
    |true=>⟨st.ρ,st.own.set k (.cells c (b.set o (.osl st.own.length)))++[.row T a 0 (λ_=>[]) none]⟩
    |false=>st
   |none=>st
  |_=>st
def nilL:List NL->St->St
 | [],st=>st
 |n::r,st=>nilL r (YT n st)
section
variable{E:Env}{B0:Nat}{X A:Nat->Prop}{w0:World}{nt:Nat}{st:St}{a:Act}{w:World}{μ:Mu}
theorem b8g(h:SD E B0 X A w0 nt st a w μ)(n:NL):∃l,SD E B0 X A w0 nt (YT n st) a w l:=by
 have q:μ st.own.length=none:=h.fresh _ (Jp _);have r:∀(T:TypeId) (sz:Nat),Own B0 X A w (μ.set st.own.length (.slice none 0 0)) (st.own++[.row T sz 0 (λ_=>[]) none])/\Keeps w w (held A μ) (held A (μ.set st.own.length (.slice none 0 0))) μ (μ.set st.own.length (.slice none 0 0)):=
  λT sz=>c1m (e:=T) (sz:=sz) (f:=λ_=>[]) (h.own.more XL) q E2
 have u:∀k,st.own.length+1<=k->(μ.set st.own.length (.slice none 0 0)) k=none:=λk d=>by unfold Mu.set;rw[if_neg Dz];exact h.fresh k Dz
 have y:∀j x,E.an j=some x->(μ.set st.own.length (.slice none 0 0)) j=some x:=λj x hx=>by have:=h.anc j x hx;unfold Mu.set;rw[Jj (λe=>by rw[e,q]at this;cases this)];exact this
 have z:(μ.set st.own.length (.slice none 0 0)) st.own.length=some (.slice none 0 0):=Eh;cases n with
 |slot t T sz=>
  simp only[YT];split;rotate_left
  .exact⟨μ,h⟩
  rename_i e B;split;rotate_left
  .exact⟨μ,h⟩
  rename_i K;split;rotate_left
  .exact⟨μ,h⟩
  rename_i hs;obtain⟨o1,o2⟩:=r T sz;refine⟨_,o1,h.fr,h.base,NW o2 h.glo,h.dfr,h.size,λL M g=> ?_,λk d=>u k (by simpa using d),y⟩;simp only[CO]at g;split at g
  .rename_i c;cases g;subst c;have:=h.env t e B;unfold DE at this⊢;rw[K]at this;simp only at this⊢;rw[NK B]at this;rw[c8a hs]at this;generalize a.tmps.getD t undef=v at this;cases this;exact .osl z
  .exact(h.env.keep o2) L M g
 |cell k o T sz=>
  simp only[YT];split;rotate_left
  .exact⟨μ,h⟩
  rename_i N C F;split;rotate_left
  .exact⟨μ,h⟩
  rename_i s hs;split;rotate_left
  .exact⟨μ,h⟩
  rename_i O;obtain⟨o1,o2⟩:=r T sz;have m:k<st.own.length:=(Jk.1 F).1;refine⟨_,⟨λj x P=> ?_,o1.inj,o1.rng,o1.bnd⟩,h.fr,h.base,NW o2 h.glo,h.dfr,h.size,h.env.keep o2,λk d=>u k (by simpa using d),y⟩;obtain⟨Q,c,G⟩:=o1.blk j x P;by_cases e:j=k
  .subst e;rw[Jt m,F]at c;cases c;refine⟨.cells N (C.set o (.osl st.own.length)),by rw[Jt (by simpa using m)];simp[m],?_⟩;obtain⟨b,R,rfl,S,hl,U,H⟩:=G;refine⟨b,R,rfl,S,Ef,U,λi V v hs' I=> ?_⟩;by_cases J:i=o
   .subst J;have:=H i s v hs I;rw[c8a O]at this;have W:i<C.length:=(Jk.1 hs).1;rw[Kv W]at hs';cases hs';cases this;exact .osl z
   .rw[Jz (Ne.symm J)]at hs';exact H i V v hs' I
  .refine⟨Q,?_,G⟩;by_cases bi:j<st.own.length
   .rw[Jt bi]at c;rw[Jt F9,Jz (Ne.symm e)];exact c
   .rw[Jy Dz]at c;rw[Jy F9];simpa using c
theorem d2n(l:List NL):∀{st:St} {μ:Mu},SD E B0 X A w0 nt st a w μ->∃b,SD E B0 X A w0 nt (nilL l st) a w b:=by
 induction l with
 |nil=>intro st μ h;exact⟨μ,h⟩
 |cons n l c=>intro st μ h;obtain⟨b,d⟩:=b8g h n;exact c d
end
theorem c6g{E:Env}{B0:Nat}{X A:Nat->Prop}{w0:World}{nt:Nat}{st:St}{a:Act}{w:World}{μ:Mu}(h:SD E B0 X A w0 nt st a w μ){l:List Nat}:SD E B0 X A w0 nt ⟨OI l st.ρ,st.own⟩ a w μ:=
 ⟨h.own,h.fr,h.base,h.glo,h.dfr,h.size,λt e b=>h.env t e (b05 b).2,h.fresh,h.anc⟩
def gk(l:List Nat)(_:Nat):List Ghost:=[.keep l]
def g1d(E:Env)(g:Ghost)(st:St):Option (Prop×St):=match g with
 |.focus t=>d6b E t st
 |.unfocus k=>c1a E k st
 |.newFam m T c=>c5k m T c st
 |.nil t T a=>some (True,YT (.slot t T a) st)
 |.sel d=>gSel E d st
 |.fz k=>some (True,st.fz E k)
 |.keep l=>some (True,⟨OI l st.ρ,st.own⟩)
 |.flat k=>g45 k st
 |.poolN T a t=>(d5d T a t st).map λs=>(True,s)
 |.poolTake k j p t b=>b6g E k j p t b st
 |.poolSeal k j p b=>b5s E k j p b st
 |.orders|.two _|.poolPut _ _ _=>none
theorem c68{E:Env}{B0:Nat}{X A:Nat->Prop}{w0:World}{nt:Nat}{st:St}{a:Act}{w:World}{μ:Mu}(h:SD E B0 X A w0 nt st a w μ){g:Ghost}{c:Prop}{d:St}(b:g1d E g st=some (c,d))(e:c):∃f,SD E B0 X A w0 nt d a w f:=by
 cases g with
 |focus t=>exact c45 h b e
 |unfocus k=>exact b7q h b
 |newFam m T Ts=>exact c1n h b e
 |nil t T n=>cases b;exact b8g h _
 |sel ks=>exact d1h h b
 |fz k=>cases b;exact d0j h k
 |keep l=>cases b;exact⟨μ,c6g h⟩
 |flat k=>exact⟨μ,c65 h b⟩
 |orders=>cases b
 |two t=>cases b
 |poolN T n t=>
  simp only[g1d,It]at b;obtain⟨s,hs,_,rfl⟩:=b;exact c28 h hs
 |poolPut t p i=>cases b
 |poolTake k j p t i=>exact b7k h b e
 |poolSeal k j p i=>exact b5m h b e
def Ub(p q:Prop):Prop:=p->q
theorem Ub.mk{p q:Prop}(h:p->q):Ub p q:=h
theorem Ub.out{p q:Prop}(h:Ub p q):p->q:=h
attribute [irreducible] Ub
def two(t:Nat)(st:St):Option (Int×St×St):=match CO t st.ρ with
 |some ⟨_,none,.int k x⟩=>some (x,⟨⟨t,none,.int k 0⟩::st.ρ,st.own⟩,⟨⟨t,none,.int k 1⟩::st.ρ,st.own⟩)
 |_=>none
theorem c31{E:Env}{B0:Nat}{X A:Nat->Prop}{w0:World}{nt:Nat}{st:St}{a:Act}{w:World}{μ:Mu}(h:SD E B0 X A w0 nt st a w μ){t:Nat}{k:IntKind}{x:Int}{n:Nat}(c:CO t st.ρ=some ⟨n,none,.int k x⟩):SD E B0 X A w0 nt ⟨⟨t,none,.int k x⟩::st.ρ,st.own⟩ a w μ:=by
 refine⟨h.own,h.fr,h.base,h.glo,h.dfr,h.size,λd e b=> ?_,h.fresh,h.anc⟩;simp only[CO]at b;split at b
 .rename_i ht;cases b;have f:=h.env t _ c;have hs:=NK c;simp only at hs;subst hs;exact f
 .exact h.env d e b
def Rk(E:Env)(K:St->Prop):List Ghost->St->Prop
 | [],st=>K st
 |.two t::a,st=>match two t st with
  |some (x,c,d)=>LI (x=0\/x=1)/\Ub (x=0) (c.force (Rk E K a))/\Ub (x=1) (d.force (Rk E K a))
  |none=>False
 |.poolPut t p e::a,st=>match b4q E t p e st with
  |some F=>RB λv=>(F v.val).force (Rk E K a)
  |none=>False
 |g::a,st=>match g1d E g st with
  |some (p,b)=>LI p/\b.force (Rk E K a)
  |none=>False
def Pg(E:Env)(K:St->Prop):List Ghost->St->Prop
 | []=>K
 |g::a=>Rk E K (g::a)
theorem YZ{E:Env}{B0:Nat}{X A:Nat->Prop}{w0:World}{nt:Nat}{a:Act}{w:World}{K:St->Prop}:∀(j:List Ghost) {st:St} {μ:Mu},SD E B0 X A w0 nt st a w μ->Rk E K j st->∃d e,SD E B0 X A w0 nt d a w e/\K d:=by
 intro j;induction j with
 |nil=>intro st μ h b;exact⟨st,μ,h,b⟩
 |cons g j l=>
  intro st μ h b;unfold Rk at b;split at b
  .cases ‹List.cons _ _=[]›
  .rename_i t f i;cases i;split at b
   .rename_i x s0 s1 c;simp only[St.force_eq]at b;obtain⟨hx,r,s⟩:=b;unfold two at c;split at c
    .rename_i n k y o;cases c;rcases hx.out with rfl|rfl
     .exact l (c31 h o) (r.out rfl)
     .exact l (c31 h o) (s.out rfl)
    .cases c
   .exact b.elim
  .rename_i t p wt f i;cases i;split at b
   .rename_i F c;obtain⟨v,e,m⟩:=b1z h c;have q:=b.out v;rw[St.force_eq]at q;exact l m q
   .exact b.elim
  .rename_i g' f _ _ i;cases i;split at b
   .rename_i p d c;rw[St.force_eq]at b;obtain⟨e,m⟩:=c68 h c b.1.out;exact l m b.2
   .exact b.elim
structure Inv where
 β:Type
 st:β->St
 ok:β->Prop
 μ:β->Nat
 nl:List NL:=[]
 sub:β->Option (Nat->Option Inv):=λ_=>none
 un:Option Nat:=none
def Inv.unroll(n:Nat):Inv:={β:=Empty,st:=λe=>e.elim,ok:=λ_=>False,μ:=λ_=>0,un:=some n}
def c4n(F:Post->St->Prop)(Q:Post):Nat->St->Prop
 |0,_=>False
 |n+1,st=>F ⟨c4n F Q n,Q.x,Q.r⟩ st
def Br(b:Bool)(p q:Prop):Prop:=match b with
 |true=>p
 |false=>q
theorem Br.mk{b:Bool}{p q:Prop}(h:b=true->p)(k:b=false->q):Br b p q:=by cases b;exact k rfl;exact h rfl
theorem Br.t{p q:Prop}(h:Br true p q):p:=h
theorem Br.f{p q:Prop}(h:Br false p q):q:=h
theorem Br.litT{b:Bool}{p q:Prop}(h:b=true)(a:p):Br b p q:=by subst h;exact a
theorem Br.litF{b:Bool}{p q:Prop}(h:b=false)(a:q):Br b p q:=by subst h;exact a
attribute [irreducible] Br
def Vp:Code->Nat
 |.region id _ _=>id
 |.seq a _=>Vp a
 |.block _ c=>Vp c
 |.loop c=>Vp c
 |.scope c=>Vp c
 |_=>0
def QD(gr:Nat->List Ghost)(id:Nat):Bool:=match gr id with
 |.orders::_=>true
 |_=>false
def Jo(b:Bool)(g:Nat->Bool):Code->Bool
 |.region id ops d=> !d||g id||Un (kb b ops) ops
 |.seq x y=>Jo b g x&&Jo b g y
 |.cond _ x y=>Jo b g x&&Jo b g y
 |.block _ c=>Jo b g c
 |.loop c=>Jo b g c
 |.scope c=>Jo b g c
 |_=>true
noncomputable def FC(E:Env)(nt:Nat)(I:Nat->Option Inv)(c:Code)(Q:Post)(st:St):Prop:=
 Code.rec (motive:=λ_=>(Nat->Option Inv)->Post->St->Prop)
  (λ_ Q st=>Q.n st)
  (λid ops d _ Q st=>match d with
    |true=>match E.gr id with
     |.orders::g=>anyQ E nt ops (Pg E Q.n g) st
     |_=>f0p E nt ops (Pg E Q.n (E.gr id)) st
    |false=>PE E nt ops (Pg E Q.n (E.gr id)) ops.toList st)
  (λ_ _ a b I Q st=>a I ⟨λe=>b I Q e,Q.x,Q.r⟩ st)
  (λc _ _ x y I Q st=>match CP E st.ρ none c with
    |some (.bool b)=>Br b (x I Q st) (y I Q st)
    |some (.ub p q)=>Ub p (x I Q st)/\Ub q (y I Q st)
    |_=>False)
  (λi _ b I Q st=>b I ⟨Q.n,λj e=>if j=i then Pg E Q.n (E.gr (1000+i)) e else Q.x j e,Q.r⟩ st)
  (λbody b I Q st=>match I (Vp body)with
    |some v=>match v.un with
     |some n=>c4n (λQ st=>b I Q st) Q n st
     |none=>∃z,v.ok z/\UB (nilL v.nl st) (v.st z)/\∀z,v.ok z->match ancB E (v.st z)with
      |true=>b ((v.sub z).getD I) ⟨λe=>∃f,v.ok f/\v.μ f<v.μ z/\UB e (v.st f),Q.x,Q.r⟩ (v.st z)
      |false=>False
    |none=>False)
  (λ_ _ _ _ _ _ _ _ _=>False)
  (λi _ Q st=>Q.x i st)
  (λ_ b I Q st=>b I Q st)
  (λ_ _ Q st=>Q.n st)
  (λ_ _ _ _=>False)
  (λ_ Q st=>Q.r st)
  (λ_ _ _ _=>False)
  c I Q st
section
variable{E:Env}{nt:Nat}{I:Nat->Option Inv}{Q:Post}{st:St}
theorem g44:FC E nt I .skip Q st=Q.n st:=rfl
theorem g3n{id:Nat}{ops:Array Oper}{d:Bool}:FC E nt I (.region id ops d) Q st=match d with
 |true=>match E.gr id with
  |.orders::a=>anyQ E nt ops (Pg E Q.n a) st
  |_=>f0p E nt ops (Pg E Q.n (E.gr id)) st
 |false=>PE E nt ops (Pg E Q.n (E.gr id)) ops.toList st:=rfl
theorem g1j{a b:Code}:FC E nt I (.seq a b) Q st=FC E nt I a ⟨λc=>FC E nt I b Q c,Q.x,Q.r⟩ st:=rfl
theorem g17{c:Operand}{x y:Code}:FC E nt I (.cond c x y) Q st=match CP E st.ρ none c with
 |some (.bool b)=>Br b (FC E nt I x Q st) (FC E nt I y Q st)
 |some (.ub p q)=>Ub p (FC E nt I x Q st)/\Ub q (FC E nt I y Q st)
 |_=>False:=rfl
theorem g2q{i:Nat}{b:Code}:FC E nt I (.block i b) Q st=FC E nt I b ⟨Q.n,λj a=>if j=i then Pg E Q.n (E.gr (1000+i)) a else Q.x j a,Q.r⟩ st:=rfl
theorem g4e{b:Code}:FC E nt I (.loop b) Q st=match I (Vp b)with
 |some v=>match v.un with
  |some n=>c4n (λQ st=>FC E nt I b Q st) Q n st
  |none=>∃z,v.ok z/\UB (nilL v.nl st) (v.st z)/\∀z,v.ok z->match ancB E (v.st z)with
   |true=>FC E nt ((v.sub z).getD I) b ⟨λa=>∃c,v.ok c/\v.μ c<v.μ z/\UB a (v.st c),Q.x,Q.r⟩ (v.st z)
   |false=>False
 |none=>False:=rfl
theorem g0v{f:Operand}{t:Array Tmp}{a b:Code}:FC E nt I (.rangeFunc f t a b) Q st=False:=rfl
theorem f8s{i:Nat}:FC E nt I (.exit i) Q st=Q.x i st:=rfl
theorem g03{b:Code}:FC E nt I (.scope b) Q st=FC E nt I b Q st:=rfl
theorem g3m{l:Nat}:FC E nt I (.label l) Q st=Q.n st:=rfl
theorem g3j{l:Nat}:FC E nt I (.goto l) Q st=False:=rfl
theorem g4q:FC E nt I .ret Q st=Q.r st:=rfl
theorem g1h{m:String}:FC E nt I (.refuse m) Q st=False:=rfl
end
theorem d1i{P:Program}{Q:Exit->Act->World->Prop}{c:Code}(J:Nat->Act->World->Prop)
 (i:∀n a w,J n a w->c.wp P (Exit.then (λo q=>∃m,m<n/\J m o q) Q) a w):∀n a w,J n a w->(Code.loop c).wp P Q a w:=by
 intro n a w h b k r;have s:∀n a w,J n a w->∃e o q,Q e o q/\Arrives P (lone (b.at a (.code c::.inLoop c::k)) r w) b k r e o q:=by
  intro n;induction n using Nat.strongRecOn with
  |_ n t=>
   intro a w u;obtain⟨e,d,f,g,fy⟩:=i n a w u b (.inLoop c::k) r;cases e with
   |normal=>
    obtain⟨m,v,j⟩:=g;obtain⟨e₂,a₂,w₂,hq₂,harr₂⟩:=t m v d f j;exact Dk
   |exit id=>exact⟨_,d,f,g,.pass (x:=.inLoop c) rfl (λ_ _=>.inl E2) fy⟩
   |goto l=>exact⟨_,d,f,g,.pass (x:=.inLoop c) rfl (λ_ _=>.inl E2) fy⟩
   |ret=>exact⟨_,d,f,g,.pass (x:=.inLoop c) rfl (λ_ _=>.inl E2) fy⟩
   |panic ch=>exact⟨_,d,f,g,.pass (x:=.inLoop c) rfl (λ_ _=>.inl E2) fy⟩
   |outgrown=>exact⟨_,d,f,g,.pass (x:=.inLoop c) rfl (λ_ _=>.inl E2) fy⟩
 obtain⟨e,o,q,g,fy⟩:=s n a w h;exact⟨e,o,q,g,.of_steps (.one step_loop) fy⟩
def LW(P:Program)(c:Code)(Q:Exit->Act->World->Prop)(a:Act)(w:World):Prop:=∀(b:Frame) (k:List Item) (d:List Frame),∃e f g,Q e f g/\Arrives P (lone (b.at a (.code c::.inLoop c::k)) d w) b k d e f g
theorem LW.loop{P:Program}{Q:Exit->Act->World->Prop}{c:Code}{a:Act}{w:World}(h:LW P c Q a w):(Code.loop c).wp P Q a w:=λb k d=>
 let ⟨e,a',w',hq,fy⟩:=h b k d
 ⟨e,a',w',hq,.of_steps (.one step_loop) fy⟩
theorem LW.once{P:Program}{Q:Exit->Act->World->Prop}{c:Code}{a:Act}{w:World}(h:c.wp P (Exit.then (λj m=>LW P c Q j m) Q) a w):LW P c Q a w:=by
 intro b k i;obtain⟨e,d,f,g,fy⟩:=h b (.inLoop c::k) i;cases e with
 |normal=>
  obtain⟨e₂,a₂,w₂,hq₂,harr₂⟩:=g b k i;exact Dk
 |exit id=>exact⟨_,d,f,g,.pass (x:=.inLoop c) rfl (λ_ _=>.inl E2) fy⟩
 |goto l=>exact⟨_,d,f,g,.pass (x:=.inLoop c) rfl (λ_ _=>.inl E2) fy⟩
 |ret=>exact⟨_,d,f,g,.pass (x:=.inLoop c) rfl (λ_ _=>.inl E2) fy⟩
 |panic ch=>exact⟨_,d,f,g,.pass (x:=.inLoop c) rfl (λ_ _=>.inl E2) fy⟩
 |outgrown=>exact⟨_,d,f,g,.pass (x:=.inLoop c) rfl (λ_ _=>.inl E2) fy⟩
section
variable{E:Env}{B0:Nat}{X A:Nat->Prop}{w0:World}{nt:Nat}
def PostOK(E:Env)(B0:Nat)(X A:Nat->Prop)(w0:World)(nt:Nat)(Q:Post)(R:Exit->Act->World->Prop):Prop:=
 (∀st a w μ,SD E B0 X A w0 nt st a w μ->Q.n st->R .normal a w)/\(∀i st a w μ,SD E B0 X A w0 nt st a w μ->Q.x i st->R (.exit i) a w)/\(∀st a w μ,SD E B0 X A w0 nt st a w μ->Q.r st->R .ret a w)
theorem d4y(k:EnvOK E)(m:HF E){ops:Array Oper}{R:Exit->Act->World->Prop}{K:St->Prop}:∀(l:List Oper) (st:St) (a:Act) (w:World) (μ:Mu),SD E B0 X A w0 nt st a w μ->PE E nt ops K l st->
 (∀d e f c,SD E B0 X A w0 nt d e f c->K d->R .normal e f)->wpList E.P ops R l a w:=by
 intro l;induction l with
 |nil=>
  intro st a w μ h b g;exact g st a w μ h b
 |cons o l n=>
  intro st a w μ h b g;simp only[b2f]at b;obtain⟨st1,μ1,q,b⟩:=b1t h b;unfold TH at b;split at b;rotate_left
  .exact b.elim
  rename_i p i hs;rw[St.forceO_eq]at b;refine wpList_step (λKc j=> ?_);exact b0z k m q hs b.1.out (λe f c hs=>j _ _ (n i e f c hs b.2 g))
theorem b6z(hE:EnvOK E)(hC:HF E)(hm:E.P.follows .mixedOrders=true):∀(c:Code) (I:Nat->Option Inv) (Q:Post) (R:Exit->Act->World->Prop) (st:St) (a:Act) (w:World) (μ:Mu),Jo E.c2 (QD E.gr) c=true->SD E B0 X A w0 nt st a w μ->PostOK E B0 X A w0 nt Q R->
 FC E nt I c Q st->c.wp E.P R a w:=by
 intro c;induction c with
 |skip=>intro I Q R st a w μ _ h u o;exact wp_skip (u.1 st a w μ h o)
 |region id ops d=>
  intro I Q R st a w μ fw h u o;simp only[g3n]at o;have O:∀{k B C m},SD E B0 X A w0 nt k B C m->Pg E Q.n (E.gr id) k->R .normal B C:=by
   intro k B C m hs K;cases W:E.gr id with
   |nil=>rw[W]at K;exact u.1 k B C m hs K
   |cons g Y=>
    rw[W]at K;obtain⟨F,G,J,fe⟩:=YZ _ hs K;exact u.1 F B C G J fe
  cases d with
  |false=>
   exact wp_region_list (d4y hE hC _ st a w μ h o (λk B C m hs K=>O hs K))
  |true=>
   dsimp only at o;split at o
   .rename_i Y W;refine c1x hE hC hm h o (λk B C m hs K=> ?_);cases Y with
    |nil=>exact u.1 k B C m hs K
    |cons g Y=>
     obtain⟨F,G,J,fe⟩:=YZ _ hs K;exact u.1 F B C G J fe
   .rename_i jc;have ho:QD E.gr id=false:=by
     unfold QD;split
     .rename_i Y e;exact absurd e (jc Y)
     .rfl
    exact d28 hE hC hm (by simpa[Jo,ho]using fw) h o (λk B C m hs K=>O hs K)
 |seq x y S T=>
  intro I Q R st a w μ fw h u o;simp only[Jo,Ke]at fw;refine wp_seq (S I ⟨λk=>FC E nt I y Q k,Q.x,Q.r⟩ _ st a w μ fw.1 h ⟨λk B C m hs H=>T I Q R k B C m fw.2 hs u H,λi k B C m hs H=>u.2.1 i k B C m hs H,λk B C m hs H=>u.2.2 k B C m hs H⟩ o)
 |cond c x y S T=>
  intro I Q R st a w μ fw h u o;simp only[Jo,Ke]at fw;simp only[g17]at o;split at o
  .rename_i b hb;have hd:=h.opds (g:=none) (λq b e=>E8) _ _ hb;generalize hv:a.eval c=v at hd;cases hd;refine wp_cond hv ?_;cases b
   .exact T I Q R st a w μ fw.2 h u o.f
   .exact S I Q R st a w μ fw.1 h u o.t
  .rename_i hb;have hd:=h.opds (g:=none) (λq b e=>E8) _ _ hb;generalize hv:a.eval c=v at hd;cases hd with
   | @ub b p q h1 h2=>
   refine wp_cond hv ?_;cases b
   .exact T I Q R st a w μ fw.2 h u (o.2.out (h2 rfl))
   .exact S I Q R st a w μ fw.1 h u (o.1.out (h1 rfl))
  .exact o.elim
 |block i b Z=>
  intro I Q R st a w μ fw h u o;have O:∀{k B C m},SD E B0 X A w0 nt k B C m->Pg E Q.n (E.gr (1000+i)) k->R .normal B C:=by
   intro k B C m hs K;cases W:E.gr (1000+i)with
   |nil=>rw[W]at K;exact u.1 k B C m hs K
   |cons g Y=>
    rw[W]at K;obtain⟨F,G,J,fe⟩:=YZ _ hs K;exact u.1 F B C G J fe
  refine wp_block (Z I ⟨Q.n,λj k=>if j=i then Pg E Q.n (E.gr (1000+i)) k else Q.x j k,Q.r⟩ _ st a w μ Gt h ⟨λk B C m hs H=>u.1 k B C m hs H,λj k B C m hs H=> ?_,λk B C m hs H=>u.2.2 k B C m hs H⟩ o);show (if j=i then R .normal B C else R (.exit j) B C);split
  .rename_i e;exact O hs (by simpa[e]using H)
  .rename_i e;replace H:Q.x j k:=by simpa[e]using H
   exact u.2.1 j k B C m hs H
 |loop b Z=>
  intro I Q R st a w μ fw h u o;simp only[g4e]at o;split at o;rotate_left
  .exact o.elim
  rename_i v hv;split at o
  .rename_i n H;have key:∀(n:Nat) (st:St) (a:Act) (w:World) (μ:Mu),SD E B0 X A w0 nt st a w μ->c4n (λQ st=>FC E nt I b Q st) Q n st->LW E.P b R a w:=by
    intro n;induction n with
    |zero=>intro st a w μ _ h;exact h.elim
    |succ n ihn=>
     intro st a w μ hs o;refine LW.once ?_;exact Z I ⟨c4n (λQ st=>FC E nt I b Q st) Q n,Q.x,Q.r⟩ _ st a w μ Gt hs ⟨λF M N G J H=>ihn F M N G J H,λi F M N G J H=>u.2.1 i F M N G J H,λF M N G J H=>u.2.2 F M N G J H⟩ o
   exact(key n st a w μ h o).loop
  obtain⟨z,hz,mn,hround'⟩:=o;have qb:∀z,v.ok z->ancB E (v.st z)=true/\FC E nt ((v.sub z).getD I) b ⟨λk=>∃U,v.ok U/\v.μ U<v.μ z/\UB k (v.st U),Q.x,Q.r⟩ (v.st z):=by
   intro z hz;have:=hround' z hz;split at this
   .rename_i e;exact⟨e,this⟩
   .exact this.elim
  obtain⟨μ0,h0⟩:=d2n v.nl h;obtain⟨m,h'⟩:=b7f h0 mn (qb z hz).1;refine d1i (λn B C=>∃z L,v.ok z/\v.μ z=n/\SD E B0 X A w0 nt (v.st z) B C L) (λn B C hJ=> ?_) (v.μ z) a w ⟨z,m,hz,rfl,h'⟩;obtain⟨U,L,vg,rfl,hs⟩:=hJ;refine Z ((v.sub U).getD I) ⟨λk=>∃V,v.ok V/\v.μ V<v.μ U/\UB k (v.st V),Q.x,Q.r⟩ _ (v.st U) B C L Gt hs ⟨λF M N G J H=> ?_,λi F M N G J H=>u.2.1 i F M N G J H,λF M N G J H=>u.2.2 F M N G J H⟩ (qb U vg).2;obtain⟨V,X5,b6,vp⟩:=H;obtain⟨μ3,h3⟩:=b7f J vp (qb V X5).1;exact⟨v.μ V,b6,V,μ3,X5,rfl,h3⟩
 |exit i=>intro I Q R st a w μ _ h u o;exact wp_exit (u.2.1 i st a w μ h o)
 |ret=>intro I Q R st a w μ _ h u o;exact wp_ret (u.2.2 st a w μ h o)
 |rangeFunc f p x y _ _=>intro I Q R st a w μ _ h u o;exact o.elim
 |scope b Z=>
  intro I Q R st a w μ fw h u o;exact wp_scope_straight (Z I Q _ st a w μ Gt h ⟨u.1,u.2.1,u.2.2⟩ o)
 |label l=>intro I Q R st a w μ _ h u o;exact wp_label (u.1 st a w μ h o)
 |goto l=>intro I Q R st a w μ _ h u o;exact o.elim
 |refuse s=>intro I Q R st a w μ _ h u o;exact o.elim
end
def BK:List SV->List SV->Prop
 | [],[]=>True
 |s::r,t::q=>s.le2 t/\BK r q
 |_,_=>False
theorem b4e:∀{cs a:List SV},BK cs a->cs.length=a.length/\∀(i:Nat) (t:SV),a[i]?=some t->∃s,cs[i]?=some s/\s.le2 t
 | [],[],_=>⟨rfl,λi t h=>Ec⟩
 |s::r,t::q,h=>by
  obtain⟨h1,b⟩:=b4e h.2;refine⟨Es,λi c ht=> ?_⟩;match i with
  |0=>simp at ht;subst ht;exact⟨s,rfl,h.1⟩
  |i+1=>simpa using b i c Fg
 | [],_::_,h=>h.elim
 |_::_,[],h=>h.elim
def MO(n:Nat):List SV->List Entry
 | []=>[]
 |s::r=>⟨n,none,s⟩::MO (n+1) r
theorem b5v{t:Nat}{e:Entry}:∀(l:List SV) (n:Nat),CO t (MO n l)=some e->e.guard=none/\n<=t/\l[t-n]?=some e.sv:=by
 intro l;induction l with
 |nil=>intro n h;simp[MO,CO]at h
 |cons s r a=>
  intro n h;simp only[MO,CO]at h;split at h
  .rename_i b;cases h;subst b;exact⟨rfl,Jp _,E2⟩
  .obtain⟨c,h2,d⟩:=a (n+1) h;refine⟨c,Dz,?_⟩;rw[show t-n=(t-(n+1))+1 from Dz];simpa using d
def VR(E:Env)(st:St):ResultVar->Option SV
 |.tmp t=>(CP E st.ρ none (.tmp t)).bind (SV.roA st.own)
 |.cell t T=>(CP E st.ρ none (.tmp t)).bind λp=>match p with
  |.own k o=>(VH E.P st.own T (.own k o)).bind λr=>r.2.roA st.own
  |_=>none
def f25(E:Env)(a:Func)(st:St):Option SV:=match a.results.toList with
 | [r]=>VR E st r
 |b=>(b.mapM (VR E st)).map .tup
def MM(E:Env)(a:Func)(s:SV)(st:St):Prop:=match f25 E a st with
 |some r=>r.le2 s
 |none=>False
structure Fam where
 ι:Type
 args:ι->List SV
 pre:ι->Prop
 res:ι->SV
def Qv(F:Fam)(k:List SV->Option (Prop×SV)):Prop:=∀a p s,k a=some (p,s)->p->∃i,BK a (F.args i)/\F.pre i/\s=F.res i
section
variable{E:Env}
def Rz(tmps:Array Value):ResultVar->Sem Value
 |.tmp t=>pure (tmps.getD t undef)
 |.cell a t=>do loadVar t (<-asAddr (tmps.getD a undef))
theorem b41(c:Func)(tmps:Array Value):results c tmps=(do let b<-c.results.mapM (Rz tmps);pure (if h:b.size=1 then b[0]else .tuple b)):=by
 unfold results;have:Rz tmps=λ(r:ResultVar)=>(match r with
  |.tmp t=>pure (tmps.getD t undef)
  |.cell a t=>do loadVar t (<-asAddr (tmps.getD a undef)):Sem Value):=by
  funext r;cases r<;>rfl
 rw[this];rfl
variable{B0:Nat}{X A:Nat->Prop}{w0:World}{nt:Nat}{st:St}{a:Act}{w:World}{μ:Mu}
theorem b8b(h:SD E B0 X A w0 nt st a w μ){r:ResultVar}{s:SV}(c:VR E st r=some s):∃v,(Rz a.tmps r).run E.P w=.ok v w/\D w A BT s v:=by
 have d:=h.opds (g:=none) (λq b e=>E8);have ro:∀{s t:SV} {v:Value},D w (held A μ) μ s v->s.roA st.own=some t->D w A BT t v:=λf m=>b1g h.own (λ_ _ h=>h) (λ_ h=>.inl h) f m (λ_ _ h=>h);cases r with
 |tmp t=>
  simp only[VR,Js]at c;obtain⟨x,y,c⟩:=c;exact⟨_,rfl,ro (d _ _ y) c⟩
 |cell t T=>
  simp only[VR,Js]at c;obtain⟨p,z,c⟩:=c;split at c
  .rename_i k o;simp only[Js]at c;obtain⟨⟨q,x⟩,i,c⟩:=c;have B:q:=by
    simp only[VH,J7,Iv]at i;obtain⟨n,_,cs,_,s',_,rfl,_⟩:=i;exact Jm
   have j:=d _ _ z;obtain⟨u,l,f⟩:=b3y h.own (λ_ _ h=>h) j i B;refine⟨u,?_,ro f c⟩;generalize C:a.eval (.tmp t)=v at j l;have F:a.tmps.getD t undef=v:=C;cases j with
   |own hk=>
    simp only[Rz,F,asAddr,Iw];simpa[Instr.loadAt,Instr.sureAddr]using l
  .cases c
theorem c5w(h:SD E B0 X A w0 nt st a w μ):∀(l:List ResultVar) (b:List SV),l.mapM (VR E st)=some b->∃c,(l.mapM (Rz a.tmps)).run E.P w=.ok c w/\DL w A BT b c:=by
 intro l;induction l with
 |nil=>intro b h;simp at h;subst h;exact⟨[],E2,rfl,λi s v h=>Ec⟩
 |cons r l g=>
  intro b hs;simp only[Mg,J7,Option.pure_def,Ka]at hs;obtain⟨s1,j,d,k,rfl⟩:=hs;obtain⟨v,hv,m⟩:=b8b h j;obtain⟨c,Q5,f⟩:=g d k;refine⟨v::c,Ib,by simp[f.1],λi s n hs e=> ?_⟩;match i with
  |0=>simp at hs e;subst hs e;exact m
  |i+1=>exact f.2 i s n G4 (by simpa using e)
theorem b5g(h:SD E B0 X A w0 nt st a w μ){c:Func}{s:SV}(b:f25 E c st=some s):∃v,(results c a.tmps).run E.P w=.ok v w/\D w A BT s v:=by
 rw[b41,Lh,Array.mapM_eq_mapM_toList,Sem.run_map];unfold f25 at b;split at b
 .rename_i r g;obtain⟨v,i,j⟩:=b8b h b;refine⟨v,?_,j⟩;rw[g,Mg,Lh,i];simp
 .rename_i rs k;simp only[Jq]at b;obtain⟨l,f,rfl⟩:=b;obtain⟨d,m,e⟩:=c5w h _ l f;refine⟨.tuple d.toArray,?_,.tup d e.1 e.2⟩;rw[m];obtain⟨n,_⟩:=PX f;have o:d.length≠1:=by
   rw[e.1,n];intro p;match hl:c.results.toList,p with
   | [r],_=>exact k r hl
  simp[o]
theorem verify{P:Program}{glob:Nat->Option SV}{f:FuncId}{fn:Func}{code:Code}(E:Env)(X7:E.P=P)(X8:E.glob=glob)(Zj:E.na=0)(hE:EnvOK E)(hC:HF E)(hm:P.follows .mixedOrders=true)(hf:P.funcs[f]?=some fn)(hb:fn.body=some code)(hn:(fn.name== "runtime.NumGoroutine")=false)
 (F:Fam) (I:F.ι->Nat->Option Inv) (k:List SV->Option (Prop×SV)) (hk:Qv F k) (bb:∀i,(F.args i).length<=fn.ntmps) (fw:Jo E.c2 (QD E.gr) code=true)
 (H:∀i,F.pre i->FC E fn.ntmps (I i) code ⟨MM E fn (F.res i),λ_ _=>False,MM E fn (F.res i)⟩ ⟨MO 0 (F.args i),[]⟩):c9w P glob f k:=by
 subst X7 X8;refine⟨⟨fn,hf,hn,by rw[hb];rfl⟩,λA w args vals pre s hA hg hD hr hp=> ?_⟩;obtain⟨i,bj,dc,rfl⟩:=hk args pre s hr hp;obtain⟨l1,l2⟩:=b4e bj;have wk:vals.length<=fn.ntmps:=Hi;refine calls_of_wp hf hb ?_;have hS:SD E w.heap.size (λ_=>False) A w fn.ntmps ⟨MO 0 (F.args i),[]⟩ {tmps:=vals.toArray++Array.replicate (fn.ntmps-vals.toArray.size) undef,defers:=[]} w BT:=by
  refine⟨⟨λk x h=>E9,λk k' x x' b h=>E9,λk x b h=>E9,hA⟩,Fr.refl _ _ _,Jp _,λg s w6=>⟨(hg g s w6).1,?_⟩,rfl,Eb,λt e he=> ?_,λ_ _=>rfl,λk x hx=>Ic⟩
  .exact Dm
  .obtain⟨h1,_,h3⟩:=b5v _ _ he;unfold DE;rw[h1];simp only;rw[NK he];have b6:t<(F.args i).length:=(Jk.1 h3).1;obtain⟨s0,c6,tr⟩:=l2 t e.sv Fq;have wz:t<vals.length:=Hj;have hd:=hD.2 t s0 vals[t] c6 (Jh wz);have dm:(vals.toArray++Array.replicate (fn.ntmps-vals.toArray.size) undef).getD t undef=vals[t]:=by
    simp[Array.getElem?_append,wz]
   rw[dm];have:=Rm hd tr;exact Dn
 refine b6z hE hC hm code (I i) ⟨MM E fn (F.res i),λ_ _=>False,MM E fn (F.res i)⟩ _ _ _ w BT fw hS ⟨λst a w' μ hs hr=> ?_,λi st a w' μ hs hr=>hr.elim,λst a w' μ hs hr=> ?_⟩ (H i dc);all_goals
  replace hr:MM E fn (F.res i) st:=hr;unfold MM at hr;split at hr
  .rename_i r ft;obtain⟨v,hv,hd⟩:=b5g hs ft;exact⟨hs.dfr,v,hv,v,rfl,Rm hd hr,hs.fr⟩
  .exact hr.elim
def d2y(st:St):SV->Prop
 |.osl k=>match st.own[k]? with
  |some (.row _ _ n f _)=>∀i,i<n->(f i).all SV.flat0=true
  |_=>False
 |.sl _ n _ _=>n=0
 |s=>if s.flat0 then True else False
def Tk(E:Env)(a:Func)(s:SV)(st:St):Prop:=match a.results.toList with
 | [.tmp t]=>match CP E st.ρ none (.tmp t)with
   |some b=>d2y st b/\MM E a s st
   |none=>False
 |_=>False
theorem d3j{w:World}{H:Nat->Prop}{μ:Mu}{x:Value}{T:TypeId}{sz n:Nat}{f:Nat->List SV}{c:Option Nat}{B:Nat}(hx:∀b,CS x b->¬b<B)(l:∀i,i<n->(f i).all SV.flat0=true)(h:DX w H μ x (.row T sz n f c)):D w (λb=>b<B) BT (.sl sz n f c) x:=by
 obtain⟨a,m,rfl,hn,hm,hc,hl,q⟩:=h;rcases q with rfl|⟨b,o,e,r,rfl,g,ho,h1,t⟩
 .exact Cv
 .have u:=hx b (KG r);have k:∀i j,i<n->j<sz->o+i*sz+j<e.length:=λi j hi d=>by
   have:=LO hi d;have:n*sz<=m*sz:=Kr _ hn;omega
  refine .sl _ b o m (λi j=>e.getD (o+i*sz+j) undef) hn hm hc (λ_=>⟨rfl,u,Pz g,λi j hi d=> ?_⟩) hl (λi j s hi hs=> ?_)
  .have:=k i j hi d;rw[TM g,Jh this];simp only[J8,Jh this];exact Cw
  .have d:j<sz:=Gh;have:=k i j hi d;simp only[J8,Jh this];exact YH (Jr.1 (l i hi) s (Jn hs)) (t i j s _ hi hs (Jh this))
theorem c60(h:SD E B0 (λ_=>False) A w0 nt st a w μ){s t:SV}{v:Value}(q:D w (held A μ) μ s v)(l:s.roA st.own=some t)(d:d2y st s):D w (λb=>b<B0) BT t v:=by
 unfold d2y at d;split at d
 .rename_i k;split at d
  .rename_i T y n f c u;simp only[SV.roA,SV.ro,SV.ro1,u,Ka]at l;subst l;cases q with
   |osl p=>
   obtain⟨bl,e,z⟩:=h.own.blk _ _ p;rw[u]at e;cases e;refine d3j (λb B b6=> ?_) d z;rcases(h.own.rng _ _ b p B).2.2 with x|x
   .omega
   .exact x
  .exact d.elim
 .rename_i y n f c;subst d;simp only[SV.roA,SV.ro,SV.ro1,Ka]at l;subst l;cases q with
  |sl a b o m g C hx F b7 G hD=>exact .sl a b o m g C hx F (λh=>absurd h (N0 _)) G (λi j s H=>absurd H (K5 _))
 .split at d
  .rename_i r;have r:s.flat0=true:=r;have I:D w A BT t v:=b1g h.own (λ_ _ h=>h) (λ_ h=>.inl h) q l (λ_ _ h=>h);have:t.flat0=true:=by
    revert l r;cases s<;>simp_all[SV.flat0,SV.roA,SV.ro,SV.ro1]
    all_goals(intros;subst_vars;simp_all[])
   exact YH this I
  .exact d.elim
theorem f9x{P:Program}{glob:Nat->Option SV}{f:FuncId}{fn:Func}{code:Code}(E:Env)(X7:E.P=P)(X8:E.glob=glob)(Zj:E.na=0)(hE:EnvOK E)(hC:HF E)(hm:P.follows .mixedOrders=true)(hf:P.funcs[f]?=some fn)(hb:fn.body=some code)(hn:(fn.name== "runtime.NumGoroutine")=false)
 (F:Fam) (I:F.ι->Nat->Option Inv) (k:List SV->Option (Prop×SV)) (hk:Qv F k) (bb:∀i,(F.args i).length<=fn.ntmps) (fw:Jo E.c2 (QD E.gr) code=true)
 (H:∀i,F.pre i->FC E fn.ntmps (I i) code ⟨Tk E fn (F.res i),λ_ _=>False,Tk E fn (F.res i)⟩ ⟨MO 0 (F.args i),[]⟩):c9w P glob f k/\c9j P glob f k:=by
 subst X7 X8;refine⟨⟨⟨fn,hf,hn,by rw[hb];rfl⟩,?_⟩,?_⟩;all_goals
  intro A w args vals pre s hA hg hD hr hp;obtain⟨i,bj,dc,rfl⟩:=hk args pre s hr hp;obtain⟨l1,l2⟩:=b4e bj;have wk:vals.length<=fn.ntmps:=Hi;refine calls_of_wp hf hb ?_;have hS:SD E w.heap.size (λ_=>False) A w fn.ntmps ⟨MO 0 (F.args i),[]⟩ {tmps:=vals.toArray++Array.replicate (fn.ntmps-vals.toArray.size) undef,defers:=[]} w BT:=by
   refine⟨⟨λk x h=>E9,λk k' x x' b h=>E9,λk x b h=>E9,hA⟩,Fr.refl _ _ _,Jp _,λg s w6=>⟨(hg g s w6).1,?_⟩,rfl,Eb,λt e he=> ?_,λ_ _=>rfl,λk x hx=>Ic⟩
   .exact Dm
   .obtain⟨h1,_,h3⟩:=b5v _ _ he;unfold DE;rw[h1];simp only;rw[NK he];have b6:t<(F.args i).length:=(Jk.1 h3).1;obtain⟨s0,c6,tr⟩:=l2 t e.sv Fq;have wz:t<vals.length:=Hj;have hd:=hD.2 t s0 vals[t] c6 (Jh wz);have dm:(vals.toArray++Array.replicate (fn.ntmps-vals.toArray.size) undef).getD t undef=vals[t]:=by
     simp[Array.getElem?_append,wz]
    rw[dm];have:=Rm hd tr;exact Dn
  refine b6z hE hC hm code (I i) ⟨Tk E fn (F.res i),λ_ _=>False,Tk E fn (F.res i)⟩ _ _ _ w BT fw hS ⟨λst a w' μ hs hr=> ?_,λi st a w' μ hs hr=>hr.elim,λst a w' μ hs hr=> ?_⟩ (H i dc);all_goals
   replace hr:Tk E fn (F.res i) st:=hr;unfold Tk at hr;split at hr;rotate_left
   .exact hr.elim
   rename_i t Zz;split at hr;rotate_left
   .exact hr.elim
   rename_i s0 c6;obtain⟨bn,hr⟩:=hr;unfold MM at hr;split at hr
   .rename_i r ft;obtain⟨v,hv,hd⟩:=b5g hs ft;first
     |exact⟨hs.dfr,v,hv,v,rfl,Rm hd hr,hs.fr⟩
     |(refine⟨hs.dfr,v,hv,v,rfl,?_,hs.fr⟩
       have kr:=hs.opds (g:=none) (λq b e=>E8) _ _ c6;unfold f25 at ft;rw[Zz]at ft;simp only[VR,c6,M7]at ft;have ny:a.eval (.tmp t)=v:=by rw[b41,Lh,Array.mapM_eq_mapM_toList,Sem.run_map,Zz]at hv;simp[Rz]at hv;show a.tmps.getD t undef=v;rw[<-hv];simp
       rw[ny]at kr;exact Rm (c60 hs kr ft bn) hr)
   .exact hr.elim
end
section
variable{H:Type}{enc:TypeId × Value->H}{P:Program}{w:World}{base:Nat}{sp:Nat->Bool}{held:Bool}{fuel:Nat}{t:TypeId}{cs:List Value}{x:DataW H × List MemPlace}
theorem c3v{k:IntKind}{n:Int}(h:(Lit.int k n).wf=true):AD k n:=by simp only[Lit.wf,J3]at h;cases k<;>simp[IntKind.min,IntKind.max,IntKind.bits,IntKind.signed]at h<;>simp only[AD]<;>omega
theorem Sl{k:IntKind}(a:P.underlying t=some (.int k))(h:DataW.trod enc P w base sp held fuel t cs=some x):∃n,cs=[.int k n]/\AD k n:=by obtain⟨n,e,_,b⟩:=DataW.trod_int a h;exact⟨n,e,c3v b⟩
theorem g3p(a:P.underlying t=some .bool)(h:DataW.trod enc P w base sp held fuel t cs=some x):∃b,cs=[.bool b]:=by obtain⟨b,e,_⟩:=DataW.trod_bool a h;exact⟨b,e⟩
theorem b71{fs:Array Field}(a:P.underlying t=some (.struct fs))(h:DataW.trod enc P w base sp held fuel t cs=some x):
 cs.length=P.cellsOf t/\∀f∈fs.toList,∃m y,DataW.trod enc P w base sp held m f.type ((cs.drop f.offset).take (P.cellsOf f.type))=some y:=by
 obtain⟨b,m,rfl,_,c,r9,hx⟩:=DataW.trod_struct a h;refine⟨c,λf d=> ?_⟩;obtain⟨i,hi,e⟩:=Kg.1 d;have g:i<fs.size:=Et;have:=hx i f (by rw[Mm g,<-e];simp);refine⟨m,b[i]'Dz,?_⟩;rw[this,Jh Dz]
theorem c9z(b o i:Nat):(⟨b,o,none⟩:Addr).add i=⟨b,o+i,none⟩:=by
 unfold Addr.add;split
 .rename_i h;subst h;rfl
 .rfl
theorem rd_sl{α:Type}(d0:α)(encS:α->List SV)(ok:α->Prop){e:TypeId}{sz:Nat}(L:P.underlying t=some (.slice e))(M:P.cellsOf e=sz)(I:0<sz){A:Nat->Prop}(N:∀b,¬A b)
 (O:∀m R y,DataW.trod enc P w base sp held m e R=some y->∃q,ok q/\(encS q).length=sz/\(encS q).all SV.pure=true/\(∀v∈R,v.oneCell'=true)/\∀(j:Nat) (s:SV) (v:Value),(encS q)[j]?=some s->R[j]?=some v->D w A BT s v)
 (h:DataW.trod enc P w base sp held fuel t cs=some x):
 ∃(l:List α) (v:Value),cs=[v]/\v.oneCell'=true/\D w A BT (.sl sz l.length (λi=>encS (l.getD i d0)) none) v/\∀q∈l,ok q:=by
 rcases DataW.trod_slice L h with⟨rfl,_⟩|⟨a,len,f,elems,rest,m,rfl,rfl,_,hb,C,S,Zm,U,_,_⟩
 .exact⟨[],_,rfl,rfl,.sl none 0 0 0 (λ_ _=>undef) (Jp _) (Jw _) (.inl rfl) (λh=>absurd h E2) (λi d=>absurd d E2) (λi j s d=>absurd d E2),λq r=>by cases r⟩
 .have g:∀i,i<len->∃(R:List Value) (q:α),(R.length=sz/\∀j,j<sz->w.cell? ((a.add (i*sz)).add j)=R[j]?)/\ok q/\(encS q).length=sz/\(encS q).all SV.pure=true/\(∀v∈R,v.oneCell'=true)/\∀(j:Nat) (s:SV) (v:Value),(encS q)[j]?=some s->R[j]?=some v->D w A BT s v:=by
   intro i d;have:=U i d;rw[M,Jh Dz]at this;rw[Js]at this;obtain⟨R,V,W⟩:=this;obtain⟨_,X,Y⟩:=World.cells?_some V;obtain⟨q,r⟩:=O m R _ W;exact⟨R,q,⟨X,Y⟩,r⟩
  let G:Nat->List Value:=λi=>if d:i<len then(g i d).choose else []
  let Q:Nat->α:=λi=>if d:i<len then(g i d).choose_spec.choose else d0
  have k:∀i,i<len->((G i).length=sz/\∀j,j<sz->w.cell? ((a.add (i*sz)).add j)=(G i)[j]?)/\ok (Q i)/\(encS (Q i)).length=sz/\(encS (Q i)).all SV.pure=true/\(∀v∈G i,v.oneCell'=true)/\∀(j:Nat) (s:SV) (v:Value),(encS (Q i))[j]?=some s->(G i)[j]?=some v->D w A BT s v:=by intro i d;simp only[G,Q,d,dif_pos];exact(g i d).choose_spec.choose_spec
  have J:∀i,i<len->((List.range len).map Q).getD i d0=Q i:=λi d=>by simp[d]
  have Z:((List.range len).map Q).length=len:=E2;have u:0<len->∃b o,a=⟨b,o,none⟩:=by
   intro n;obtain⟨⟨g1,E⟩,_⟩:=k 0 n;have:=E 0 I;rw[Jh Dz]at this;have hs:=World.cell?_spot this;obtain⟨b,o,s⟩:=a;have:s=none:=by simpa[Addr.add]using hs
   exact⟨b,o,by rw[this]⟩
  have K:∀b o,a=⟨b,o,none⟩->∀i j,i<len->j<sz->w.cell? ⟨b,o+i*sz+j,none⟩=some ((G i).getD j undef):=by rintro b o rfl i j d B;obtain⟨⟨g1,E⟩,_⟩:=k i d;have:=E j B;rw[Jh Dz]at this;rw[c9z,c9z]at this;rw[Jg,Jh Dz,this];rfl
  have z:∀(b o:Nat),(0<len->a=⟨b,o,none⟩)->D w A BT (.sl sz ((List.range len).map Q).length (λi=>encS (((List.range len).map Q).getD i d0)) none) (.slice (some a) len f):=by
   intro b o F;rw[Z];refine .sl (some a) b o f (λi j=>(G i).getD j undef) C S (.inl rfl) (λn=> ?_) (λi d=> ?_) (λi j s d hs=> ?_)
   .have H:=F n;refine⟨by rw[H],N b,?_,λi j d B=>⟨K b o H i j d B,?_⟩⟩
    .have:=K b o H 0 0 n I;unfold World.cell? at this;split at this
     .rename_i c T fz hc;exact(K7.1 hc).1
     .cases this
    .obtain⟨⟨g1,_⟩,_,_,_,g5,_⟩:=k i d;show ((G i).getD j undef).oneCell'=true;rw[Jg,Jh Dz];exact g5 _ (Kj _)
   .rw[J i d];exact⟨(k i d).2.2.1,(k i d).2.2.2.1⟩
   .rw[J i d]at hs;obtain⟨⟨g1,_⟩,_,g3,_,_,g6⟩:=k i d;have B:j<sz:=by rw[<-g3];exact(Jk.1 hs).1
    refine g6 j s _ hs ?_;simp only[Jg];rw[Jh Dz];rfl
  refine⟨(List.range len).map Q,.slice (some a) len f,rfl,rfl,?_,λq r=> ?_⟩
  .rcases Kt len with n|n
   .exact z 0 0 (λh=>absurd h Dz)
   .obtain⟨b,o,e⟩:=u n;exact z b o (λ_=>e)
  .obtain⟨i,d,rfl⟩:=Jx.1 r;exact(k i (Kk.1 d)).2.1
mutual
def XN:DataW H->List Value
 |.lit (.int k n)=>[.int k n]
 |.lit (.bool b)=>[.bool b]
 |.agg a=>f4u a
 |_=>[]
def f4u:List (DataW H)->List Value
 | []=>[]
 |d::r=>XN d++f4u r
end
mutual
def Wi:DataW H->Bool
 |.lit (.int _ _)=>true
 |.lit (.bool _)=>true
 |.agg a=>c9i a
 |_=>false
def c9i:List (DataW H)->Bool
 | []=>true
 |d::r=>Wi d&&c9i r
end
theorem c1b:∀l:List (DataW H),f4u l=(l.map XN).flatten
 | []=>rfl
 |d::r=>by simp[f4u,c1b r]
theorem b3t:∀{l:List (DataW H)},c9i l=true->∀d∈l,Wi d=true
 | [],_,d,h=>E9
 |x::r,h,d,a=>by
  simp only[c9i,Ke]at h;rcases Jv.1 a with rfl|a
  .exact h.1
  .exact b3t h.2 d a
theorem b67:∀(b:List Nat) (cs:List Value) (a:List (List Value)),a.length=b.length->cs.length=b.sum->(∀(i s:Nat) (y:List Value),b[i]?=some s->a[i]?=some y->(cs.drop (b.take i).sum).take s=y)->cs=a.flatten:=by
 intro b;induction b with
 |nil=>
  intro cs a c hc _;obtain rfl:a=[]:=M1.1 c;obtain rfl:cs=[]:=M1.1 Ex;rfl
 |cons s b f=>
  intro cs a c hc d;match a,c with
  |y::a,c=>
   have e:=d 0 s y rfl rfl;simp at e;have:=f (cs.drop s) a (by simpa using c) (by simp at hc⊢;omega) (λi g j hs k=>by have:=d (i+1) g j G4 (by simpa using k);simp only[List.take_succ_cons,List.sum_cons]at this;rw[List.drop_drop];exact this)
   rw[List.flatten_cons,<-this,<-e,List.take_append_drop]
theorem f4g{P:Program}{t:TypeId}(h:isVar P t=true):t<P.types.size:=by simp only[isVar,J3]at h;exact h.1
theorem d2m(a:laidOutB P=true)(h:isVar P t=true):rowFine P t=true:=by simp only[laidOutB,Ke]at a;exact Jr.1 a.1.1 t (Kk.2 (f4g h))
def d8q(P:Program):Nat->TypeId->Bool
 |0,_=>false
 |n+1,t=>match P.underlying t with
  |some (.int _)|some .bool=>true
  |some (.struct a)=>a.toList.all λf=>d8q P n f.type
  |some (.array _ e)=>d8q P n e
  |_=>false
theorem d3c(J:laidOutB P=true):∀(fuel:Nat) (t:TypeId) (cs:List Value) (x:DataW H×List MemPlace) (n:Nat),d8q P n t=true->isVar P t=true->DataW.trod enc P w base sp held fuel t cs=some x->Wi x.1=true->cs=XN x.1:=by
 intro fuel;induction fuel with
 |zero=>intro t cs x n _ _ h;simp[DataW.trod]at h
 |succ m E=>
  intro t cs x n a F h q;match n,a with
  |G+1,a=>
  unfold d8q at a;have c:=d2m J F;unfold rowFine at c;simp only[F,Bool.not_true,Nm]at c;cases hu:P.underlying t with
  |none=>simp[DataW.trod,hu]at h
  |some T=>
   cases T with
   |int k=>
    obtain⟨n,rfl,rfl,_⟩:=DataW.trod_int hu h;rfl
   |bool=>
    obtain⟨b,rfl,rfl⟩:=DataW.trod_bool hu h;rfl
   |struct I=>
    rw[hu]at c;simp only[Jb,Jr]at c;obtain⟨⟨r,d⟩,K⟩:=c;obtain⟨L,u,em,rfl,v,A,hx⟩:=DataW.trod_struct hu h;obtain rfl:m=u:=Dz;simp only[Wi]at q;have B:=b3t q;simp only[XN,c1b,M5];refine b67 (I.toList.map λf=>P.cellsOf f.type) cs _ (by simp[A]) (by rw[v,d]) (λi s y hs g=> ?_);rw[K9,Jq]at hs g;obtain⟨f,j,rfl⟩:=hs;obtain⟨z,l,rfl⟩:=g;have o:i<I.toList.length:=(Jk.1 j).1;have C:=K i (Kk.2 o);rw[j]at C;simp only[Mc]at C;have:=hx i f (by simpa using j);rw[l]at this;rw[<-List.map_take]at*;rw[<-C];rw[hu]at a;exact E f.type _ z G (Jr.1 a f (Jn j)) (r f (Jn j)) this (B z.1 (List.mem_map_of_mem (Jn l)))
   |array n e=>
    rw[hu]at c;simp only[Jb]at c;obtain⟨M,d⟩:=c;obtain⟨L,u,em,rfl,v,A,hx⟩:=DataW.trod_array hu h;obtain rfl:m=u:=Dz;simp only[Wi]at q;have B:=b3t q;simp only[XN,c1b,M5];refine b67 (List.replicate n (P.cellsOf e)) cs _ (by simp[A]) (by rw[v,d];simp) (λi s y hs g=> ?_);rw[K9,Jq]at g;obtain⟨z,l,rfl⟩:=g;have o:i<n:=by have:=(Jk.1 hs).1;simpa using this
    have hs':s=P.cellsOf e:=by simp[o]at hs;exact hs.symm
    subst hs';have:=hx i o;rw[l]at this;rw[List.take_replicate,List.sum_replicate_nat,Nat.min_eq_left (Nat.le_of_lt o)];rw[hu]at a;exact E e _ z G a M this (B z.1 (List.mem_map_of_mem (Jn l)))
   |_=>
    simp[hu]at a
end
def svIs:SV->Value->Bool
 |.int k n,.int d m=>k==d&&n==m
 |.bool b,.bool c=>b==c
 |.clo f [],.func (.func g) a b=>f==g&&a.isEmpty&&b.isEmpty
 |_,_=>false
theorem d8y{w:World}{H:Nat->Prop}{μ:Mu}{s:SV}{v:Value}(h:svIs s v=true):D w H μ s v/\v.oneCell'=true/\s.pure=true:=by
 unfold svIs at h;split at h
 .simp only[Jb]at h;obtain⟨rfl,rfl⟩:=h;exact⟨.int,rfl,rfl⟩
 .simp only[Mc]at h;subst h;exact⟨.bool,rfl,rfl⟩
 .rename_i f g a b;simp only[Jb,Array.isEmpty_iff]at h;obtain⟨⟨rfl,rfl⟩,rfl⟩:=h;exact⟨.clo [] rfl (λi s v h=>Ec),rfl,rfl⟩
 .cases h
def d3i(sz n:Nat)(f:Nat->List SV)(cs:List Value):Bool:=
 cs.length==n*sz&&(List.range n).all λi=>(f i).length==sz&&((f i).zip ((cs.drop (i*sz)).take sz)).all λx=>svIs x.1 x.2
theorem c3b{w:World}{A:Nat->Prop}{μ:Mu}{g sz n:Nat}{f:Nat->List SV}{cs:List Value}(o:0<n)(p:¬A g)(q:g<w.heap.size)(r:∀k,w.cell? ⟨g,k,none⟩=cs[k]?)(d:d3i sz n f cs=true):(SV.rel sz n f 0 0).pure=true/\D w A μ (.rel sz n f 0 0) (.pointer (some ⟨g,0,none⟩)):=by
 simp only[d3i,Jb,Jr]at d;obtain⟨dt,d⟩:=d;have m:∀i j,i<n->j<sz->i*sz+j<cs.length:=λi j a b=>by have:=Kr sz (show i+1<=n from a);rw[Ma,Nat.one_mul]at this;omega
 have l:∀i j,i<n->j<sz->∀s,(f i)[j]?=some s->svIs s (cs.getD (i*sz+j) undef)=true:=by intro i j a b s hs;obtain⟨h1,t⟩:=d i (Kk.2 a);refine t (s,cs.getD (i*sz+j) undef) (Lg.2 ⟨j,?_⟩);rw[List.getElem?_zip_eq_some];refine⟨hs,?_⟩;rw[List.getElem?_take,Ji b,List.getElem?_drop,Jg,Jh (m i j a b)];rfl
 have h:∀i,i<n->(f i).length=sz:=λi a=>(d i (Kk.2 a)).1;refine⟨rfl,?_⟩;have:=D.rel (w:=w) (H:=A) (μ:=μ) (sz:=sz) (n:=n) (i:=0) (off:=0) (f:=f) g 0 (λi j=>cs.getD (i*sz+j) undef) o p ⟨q,λi j a b=>⟨?_,?_⟩⟩ (λi a=>⟨h i a,?_⟩) (λi j s a hs=> ?_)
 .simpa using this
 .show w.cell? ⟨g,0+i*sz+j,none⟩=some (cs.getD (i*sz+j) undef);rw[L9,r,Jg,Jh (m i j a b)];rfl
 .have u:j<(f i).length:=by rw[h i a];exact b
  exact(d8y (w:=w) (H:=A) (μ:=μ) (l i j a b _ (Jh u))).2.1
 .rw[Jr];intro s hs;obtain⟨j,b,e⟩:=Kg.1 hs;have c:j<sz:=by rw[<-h i a];exact b
  exact(d8y (w:=w) (H:=A) (μ:=μ) (l i j a c s (by rw[Jh b,e]))).2.2
 .have c:j<sz:=by rw[<-h i a];exact(Jk.1 hs).1
  exact(d8y (l i j a c s hs)).1
structure FamH where
 ι:Type
 args:ι->List SV
 own:ι->List Blk
 pre:ι->Prop
 res:ι->SV
 own':ι->List Blk
 chg:List Nat
def LawH(F:FamH)(h:HK):Prop:=∀b a r,h b a=some r->r.pre->∃i,BK b (F.args i)/\a.length=(F.own i).length/\TL (F.own i).length a (F.own i)/\F.pre i/\r.res=F.res i/\r.own=F.own' i/\r.chg=F.chg
def Vq(E:Env)(st:St):ResultVar->Option SV
 |.tmp t=>CP E st.ρ none (.tmp t)
 |.cell t T=>(CP E st.ρ none (.tmp t)).bind λp=>match p with
  |.own k o=>(VH E.P st.own T (.own k o)).map (·.2)
  |_=>none
def g0h(E:Env)(a:Func)(st:St):Option SV:=match a.results.toList with
 | [r]=>Vq E st r
 |b=>(b.mapM (Vq E st)).map .tup
def Pp(E:Env)(a:Func)(F:FamH)(i:F.ι)(st:St):Prop:=match g0h E a st with
 |some r=>r.le2 (F.res i)/\(if(F.res i).in2 (F.own' i).length=true then True else False)/\TL (F.own' i).length st.own (F.own' i)
 |none=>False
section
variable{E:Env}{B0:Nat}{X A:Nat->Prop}{w0:World}{nt:Nat}{st:St}{a:Act}{w:World}{μ:Mu}
theorem b87(h:SD E B0 X A w0 nt st a w μ){r:ResultVar}{s:SV}(c:Vq E st r=some s):∃v,(Rz a.tmps r).run E.P w=.ok v w/\D w (held A μ) μ s v:=by
 have d:=h.opds (g:=none) (λq b e=>E8);cases r with
 |tmp t=>
  simp only[Vq]at c;exact⟨_,rfl,d _ _ c⟩
 |cell t T=>
  simp only[Vq,Js]at c;obtain⟨p,l,c⟩:=c;split at c
  .rename_i k o;simp only[Jq]at c;obtain⟨⟨q,s0⟩,f,rfl⟩:=c;have m:q:=by
    simp only[VH,J7,Iv]at f;obtain⟨n,_,cs,_,s',_,rfl,_⟩:=f;exact Jm
   have i:=d _ _ l;obtain⟨u,j,x⟩:=b3y h.own (λ_ _ h=>h) i f m;refine⟨u,?_,x⟩;generalize y:a.eval (.tmp t)=v at i j;have z:a.tmps.getD t undef=v:=y;cases i with
   |own hk=>
    simp only[Rz,z,asAddr,Iw];simpa[Instr.loadAt,Instr.sureAddr]using j
  .cases c
theorem c63(h:SD E B0 X A w0 nt st a w μ):∀(l:List ResultVar) (b:List SV),l.mapM (Vq E st)=some b->∃c,(l.mapM (Rz a.tmps)).run E.P w=.ok c w/\DL w (held A μ) μ b c:=by
 intro l;induction l with
 |nil=>intro b h;simp at h;subst h;exact⟨[],E2,rfl,λi s v h=>Ec⟩
 |cons r l g=>
  intro b hs;simp only[Mg,J7,Option.pure_def,Ka]at hs;obtain⟨s1,j,d,k,rfl⟩:=hs;obtain⟨v,hv,m⟩:=b87 h j;obtain⟨c,Q5,f⟩:=g d k;refine⟨v::c,Ib,by simp[f.1],λi s n hs e=> ?_⟩;match i with
  |0=>simp at hs e;subst hs e;exact m
  |i+1=>exact f.2 i s n G4 (by simpa using e)
theorem d55(h:SD E B0 X A w0 nt st a w μ){c:Func}{s:SV}(b:g0h E c st=some s):∃v,(results c a.tmps).run E.P w=.ok v w/\D w (held A μ) μ s v:=by
 rw[b41,Lh,Array.mapM_eq_mapM_toList,Sem.run_map];unfold g0h at b;split at b
 .rename_i r g;obtain⟨v,i,j⟩:=b87 h b;refine⟨v,?_,j⟩;rw[g,Mg,Lh,i];simp
 .rename_i rs k;simp only[Jq]at b;obtain⟨l,f,rfl⟩:=b;obtain⟨d,m,e⟩:=c63 h _ l f;refine⟨.tuple d.toArray,?_,.tup d e.1 e.2⟩;rw[m];obtain⟨n,_⟩:=PX f;have o:d.length≠1:=by
   rw[e.1,n];intro p;match hl:c.results.toList,p with
   | [r],_=>exact k r hl
  simp[o]
end
structure GhX where
 g0:List Ghost:=[]
 gx:St->List Ghost:=λ_=>[]
def inG(E:Env)(G:GhX)(K:St->Prop)(st:St):Prop:=match G.g0 with
 | []=>K st
 |g::a=>Rk E K (g::a) st
def Qq(E:Env)(G:GhX)(K:St->Prop)(st:St):Prop:=match G.gx st with
 | []=>K st
 |g::a=>Rk E K (g::a) st
theorem g1p{P:Program}{glob:Nat->Option SV}{f:FuncId}{fn:Func}{code:Code}(F:FamH)(E:(i:F.ι)->Mu->Env)(X7:∀i μ,(E i μ).P=P)(X8:∀i μ,(E i μ).glob=glob)(Zj:∀i μ,(E i μ).na=(F.own i).length/\(E i μ).ax=(λk=> !F.chg.contains k)/\(E i μ).av=μ)
 (hE:∀i μ,EnvOK (E i μ)) (hC:∀i μ,HF (E i μ)) (hm:P.follows .mixedOrders=true)
 (hf:P.funcs[f]?=some fn) (hb:fn.body=some code) (hn:(fn.name== "runtime.NumGoroutine")=false) (I:F.ι->Nat->Option Inv) (h:HK) (hh:LawH F h) (bb:∀i,(F.args i).length<=fn.ntmps) (fg:∀i,(F.own i).length<=(F.own' i).length) (G:GhX) (fw:∀i μ,Jo (E i μ).c2 (QD (E i μ).gr) code=true)
 (H:∀i μ,F.pre i->inG (E i μ) G (FC (E i μ) fn.ntmps (I i) code ⟨Qq (E i μ) G (Pp (E i μ) fn F i),λ_ _=>False,Qq (E i μ) G (Pp (E i μ) fn F i)⟩) ⟨MO 0 (F.args i),F.own i⟩):d6z P glob f h:=by
 refine⟨⟨fn,hf,hn,by rw[hb];rfl⟩,λA w args vals own μ r hA hg hO d8 hD hr hp=> ?_⟩;obtain⟨i,bj,me,jw,dc,e1,e2,e3⟩:=hh args own r hr hp;have hEP':=X7 i μ;subst hEP';obtain⟨l1,l2⟩:=b4e bj;have wk:vals.length<=fn.ntmps:=Hi;have nw:cut (F.own i).length μ=μ:=by
  funext k;unfold cut;split
  .rfl
  .rename_i hk;exact(d8 k Dz).symm
 obtain⟨ha1,ha2,ha3⟩:=Zj i μ;refine calls_of_wp hf hb ?_;have hS:SD (E i μ) w.heap.size (Oo μ) A w fn.ntmps ⟨MO 0 (F.args i),F.own i⟩ {tmps:=vals.toArray++Array.replicate (fn.ntmps-vals.toArray.size) undef,defers:=[]} w μ:=by
  refine⟨⟨λk x hk=> ?_,hO.inj,λk x b hk hx=>⟨(hO.rng k x b hk hx).1,(hO.rng k x b hk hx).2.1,.inr ⟨k,x,hk,hx⟩⟩,hA⟩,Fr.refl _ _ _,Jp _,λg s w6=> ?_,rfl,Eb,λt e he=> ?_,λk hk=>d8 k (by rw[me];exact hk),λk x hx=> ?_⟩
  .obtain⟨bl,e,ba⟩:=hO.blk k x hk;have b6:k<(F.own i).length:=by rw[<-me];exact(Jk.1 e).1
   obtain⟨b,e2,bj⟩:=b2y jw k _ (Jh b6);rw[e]at e2;cases e2;refine⟨_,Jh b6,?_⟩;have:=Blk.le_sound (H':=held A μ) (λ_ h=>h) ba bj;rwa[nw]at this
  .rw[X8]at w6;exact⟨(hg g s w6).1,(hg g s w6).2.keep ⟨Jp _,λ_ _ _=>rfl,λ_ _ h=>h,λ_ _ h=>E9⟩⟩
  .obtain⟨h1,_,h3⟩:=b5v _ _ he;unfold DE;rw[h1];simp only;rw[NK he];have b6:t<(F.args i).length:=(Jk.1 h3).1;obtain⟨s0,c6,tr⟩:=l2 t e.sv Fq;have wz:t<vals.length:=Hj;have hd:=hD.2 t s0 vals[t] c6 (Jh wz);have dm:(vals.toArray++Array.replicate (fn.ntmps-vals.toArray.size) undef).getD t undef=vals[t]:=by
    simp[Array.getElem?_append,wz]
   rw[dm];exact Rm hd tr
  .have s4:=Env.an_ak hx;unfold Env.an at hx;rw[Ji s4,ha3]at hx;exact hx
 have bg:∃st0 μ0,SD (E i μ) w.heap.size (Oo μ) A w fn.ntmps st0 {tmps:=vals.toArray++Array.replicate (fn.ntmps-vals.toArray.size) undef,defers:=[]} w μ0/\FC (E i μ) fn.ntmps (I i) code ⟨Qq (E i μ) G (Pp (E i μ) fn F i),λ_ _=>False,Qq (E i μ) G (Pp (E i μ) fn F i)⟩ st0:=by
  have h0:=H i μ dc;unfold inG at h0;split at h0
  .exact⟨_,_,hS,h0⟩
  .exact YZ _ hS h0
 obtain⟨st0,μ0,hS0,hH0⟩:=bg;refine b6z (hE i μ) (hC i μ) hm code (I i) ⟨Qq (E i μ) G (Pp (E i μ) fn F i),λ_ _=>False,Qq (E i μ) G (Pp (E i μ) fn F i)⟩ _ _ _ w μ0 (fw i μ) hS0 ⟨λst1 a w' μ1 hs hr=> ?_,λi st a w' μ2 hs hr=>hr.elim,λst1 a w' μ1 hs hr=> ?_⟩ hH0;all_goals
  have fi:∃st μ2,SD (E i μ) w.heap.size (Oo μ) A w fn.ntmps st a w' μ2/\Pp (E i μ) fn F i st:=by
   replace hr:Qq (E i μ) G (Pp (E i μ) fn F i) st1:=hr;unfold Qq at hr;split at hr
   .exact⟨_,_,hs,hr⟩
   .exact YZ _ hs hr
  clear hr hs;obtain⟨st,μ2,hs,hr⟩:=fi;unfold Pp at hr;split at hr
  .rename_i rs ft;obtain⟨hr1,vu,hr3⟩:=hr;have bg:(F.res i).in2 (F.own' i).length=true:=by
    split at vu
    .assumption
    .exact vu.elim
   obtain⟨v,hv,hd⟩:=d55 hs ft;have hH:∀b,held A (cut (F.own' i).length μ2) b->held A μ2 b:=by
    intro b hb;rcases hb with hb|⟨k,x,hk,hx⟩
    .exact .inl hb
    .refine .inr ⟨k,x,?_,hx⟩;unfold cut at hk;split at hk
     .exact hk
     .cases hk
   have qv:∀{k x},cut (F.own' i).length μ2 k=some x->k<(F.own' i).length/\μ2 k=some x:=by
    intro k x hk;unfold cut at hk;split at hk
    .exact⟨‹_›,hk⟩
    .cases hk
   rw[e1,e2,e3];refine⟨hs.dfr,v,hv,v,cut (F.own' i).length μ2,rfl,⟨λk x hk=> ?_,λk k' x x' b hk dh=>hs.own.inj k k' x x' b (qv hk).2 (qv dh).2,λk x b hk hx=> ?_,hs.own.bnd⟩,λk hk=>by unfold cut;rw[if_neg Dz],c3s hH (Rm hd hr1) bg,λk x hk hc hx=> ?_,hs.fr⟩
   .obtain⟨b6,hk⟩:=qv hk;obtain⟨bl,e1,hb⟩:=hs.own.blk k x hk;obtain⟨b,e2,bj⟩:=b2y hr3 k _ (Jh b6);rw[e1]at e2;cases e2;exact⟨_,Jh b6,Blk.le_sound hH hb bj⟩
   .exact hs.own.rng k x b (qv hk).2 hx
   .have s4:(E i μ).ak k=true:=by
     unfold Env.ak;rw[ha1,ha2];simp only[J3];exact⟨Dz,by rw[hc];rfl⟩
    have:=hs.anc k x (by unfold Env.an;rw[if_pos s4,ha3];exact hx);have rt:k<(F.own' i).length:=by exact Kf Dz (fg i)
    unfold cut;rw[Ji rt];exact this
  .exact hr.elim
end Go.Proofs.YtlffhjfkaepimaaGreatDoor.V
