/-
  Parts of the proof: V16 W1 W2 W3 W4 G1 O1 V17. Conditions: none.
-/
import Derived.Test.YtaihldljnlgnoaaGreatDoorSkc3
set_option maxRecDepth 100000
set_option maxHeartbeats 40000000
namespace Go.Proofs.YtaihldljnlgnoaaGreatDoor.V
open Go
def FA(o:Oper)(j:Nat):Bool:=o.after.toList.any λe=>Region.binds .any e&&e.on==j
def b3d(a:Array Oper):Nat->Option (Nat×Bool)->List Nat
 |0,_=>[]
 |_,none=>[]
 |n+1,some (j,_)=>match a[j]? with
  |some o=>match o.dst with
   |some d=>d::b3d a n o.guard
   |none=>b3d a n o.guard
  |none=>[]
def NV(a:Array Oper)(o:Oper):List Nat:=(o.op.operands.toList.filterMap λx=>match x with|.tmp t=>some t|_=>none)++b3d a 6 o.guard
def Ra(ks:List Nat)(o:Oper):Nat:=
 if o.after.toList.any λe=>Region.binds .any e&&ks.getD e.on 0==2 then 2 else match o.op with
 |.store _ _ _=>1
 |.call {callee:=.builtin .append,..}=>2
 |.mapUpdate _ _ _ _|.insert _ _ _ _=>2
 |.call {callee:=.builtin .delete,..}|.call {callee:=.builtin .copy,..}|.call {callee:=.builtin .clear,..}=>2
 |_=>0
def reach1(o:Oper)(a:List Nat):Nat:=o.after.toList.foldl (λm e=>if Region.binds .any e then m|||1 <<< e.on|||a.getD e.on 0 else m) 0
def b9g:List Oper->List Nat->List Nat
 | [],a=>a
 |o::l,a=>b9g l (a++[reach1 o a])
def d64(a:Array Oper):List Nat:=b9g a.toList []
inductive Reach (ops:Array Oper):Nat->Nat->Prop
 |one {i j:Nat} {o:Oper} (h:ops[i]?=some o) (hw:FA o j=true):Reach ops i j
 |more {i j k:Nat} {o:Oper} (h:ops[i]?=some o) (hw:FA o k=true) (hr:Reach ops k j):Reach ops i j
theorem c4e(l:List Edge)(b:List Nat):∀(m j:Nat),(l.foldl (λm e=>if Region.binds .any e then m|||1 <<< e.on|||b.getD e.on 0 else m) m).testBit j=true->m.testBit j=true\/∃e∈l,Region.binds .any e=true/\(e.on=j\/(b.getD e.on 0).testBit j=true):=by
 induction l with
 |nil=>intro m j h;exact .inl h
 |cons e l c=>
  intro m j h;simp only[M3]at h;rcases c _ j h with h|⟨d,f,a⟩
  .split at h
   .rename_i a;simp only[Nat.testBit_or,Kd]at h;rcases h with(h|h)|h
    .exact .inl h
    .refine .inr ⟨e,Dz,a,.inl ?_⟩;rw[Nat.testBit_shiftLeft]at h;simp only[Ip]at h;have:=h.2;match hk:j-e.on with
     |0=>omega
     |n+1=>
      rw[hk,Nat.testBit_succ]at this;simp at this
    .exact .inr ⟨e,Dz,a,.inr h⟩
   .exact .inl h
  .exact .inr ⟨d,by simp[f],a⟩
theorem c1f(b:Array Oper):∀(l:List Oper) (a:List Nat),(∀k,l[k]?=b[a.length+k]?)->(∀i j,i<a.length->(a.getD i 0).testBit j=true->Reach b i j)->∀i j,((b9g l a).getD i 0).testBit j=true->Reach b i j:=by
 intro l;induction l with
 |nil=>
  intro a _ h i j c;by_cases f:i<a.length
  .exact h i j f c
  .rw[b9g,J5,Li Dx]at c;simp at c
 |cons o l r=>
  intro a g h;refine r _ (λk=> ?_) (λi j f c=> ?_)
  .have:=g (k+1);simp only[Lb]at this;rw[this,K5];congr 1;simp only[Kt,Mn];omega
  .by_cases m:i<a.length
   .rw[J5,Jg m,<-J5]at c;exact h i j m c
   .have s:i=a.length:=by simp at f;omega
    subst s;rw[J5,Jm (Jf _)]at c;simp only[Kw,Mk,Kx]at c;have n:b[a.length]?=some o:=by have:=g 0;simpa using this.symm
    rcases c4e _ _ _ _ c with t|⟨e,u,v,d⟩
    .simp at t
    .have q:FA o e.on=true:=by
      simp only[FA,Jp,Iy];exact⟨e,u,v,rfl⟩
     rcases d with rfl|d
     .exact .one n q
     .by_cases w:e.on<a.length
      .exact .more n q (h _ _ w d)
      .rw[J5,Li Dx]at d;simp at d
theorem b0t{a:Array Oper}{i j:Nat}(h:((d64 a).getD i 0).testBit j=true):Reach a i j:=
 c1f a a.toList [] (λk=>Dz) (λi j b=>by simp at b) i j h
def b2m(ks:List Nat)(o:Oper):Nat:=
 if Ra ks o==2 then 2 else match o.op with
 |.call {callee:=.value _,..}=>2
 |_=>Ra ks o
def d67(o:Oper):Bool:=match o.op with
 |.call {callee:=.value (.tmp _),..}=>true
 |_=>false
def b2v(ks:List Nat)(o:Oper):Nat:=
 if Ra ks o==2 then 2 else match d67 o with
 |true=>1
 |false=>if o.after.toList.any λe=>Region.binds .any e&&ks.getD e.on 0==1 then(match o.op with
  |.store _ _ _=>1
  |_=>2)else Ra ks o
def f3i(a:Array Oper)(o:Oper):Bool:=match o.op with
 |.call {callee:=.builtin .append,args:=⟨.tmp t::_⟩,..}=>a.toList.any λy=>match y.op with
  |.buildSlice _ 0 _=>y.dst==some t
  |_=>false
 |_=>false
def b34(a:Array Oper)(ks:List Nat)(o:Oper):Nat:=
 if o.after.toList.any λe=>Region.binds .any e&&ks.getD e.on 0==2 then 2 else match f3i a o with
 |true=>0
 |false=>Ra ks o
def QA(o:Oper):Option (Nat×Nat):=match o.op,o.guard,o.dst with
 |.move (.tmp s),none,some d=>some (s,d)
 |_,_,_=>none
def d2e(a:Array Oper)(ks b:List Nat)(x:Oper×Nat):Bool:=match QA x.1 with
 |some (s,d)=>a.toList.zipIdx.all λy=>y.1.dst !=some s&&(!(NV a y.1).contains d||(ks.getD y.2 0==2&&(b.getD y.2 0).testBit x.2))
 |none=>false
def f37(a:Array Oper)(ks:List Nat):List Nat:=match ks.all (λk=>k !=2)with
 |true=>ks
 |false=>let b:=d64 a
  a.toList.zipIdx.map λx=>if ks.getD x.2 0==0&&(a.toList.zipIdx.any λy=>ks.getD y.2 0==2&& !(b.getD y.2 0).testBit x.2)&&d2e a ks b x then 3 else ks.getD x.2 0
def d1d(a:Array Oper)(ks:List Nat):Bool:=
 let l:=a.toList.zipIdx
 let b:=d64 a
 l.all (λx=>x.1.after.toList.all λe=> !Region.binds .any e||decide (e.on<x.2))&&
 Rc (l.filterMap λx=>x.1.dst)&&
 l.all (λx=>ks.getD x.2 0==2||(NV a x.1).all λt=>l.all λy=>y.2==x.2||y.1.dst !=some t||(if y.2<x.2&&ks.getD y.2 0==0 then(b.getD x.2 0).testBit y.2 else(b.getD y.2 0).testBit x.2))&&
 l.all (λx=>ks.getD x.2 0 !=1||((x.1.dst==none||d67 x.1)&&x.1.guard.isNone&&l.all λy=> !(decide (y.2<x.2)&&ks.getD y.2 0==1)||FA x.1 y.2))&&
 l.all (λx=>match x.1.guard with|some (j,_)=>FA x.1 j|none=>true)&&
 l.all (λx=>ks.getD x.2 0 !=2||l.all λy=>y.2==x.2||(ks.getD y.2 0==2&&decide (x.2<y.2))||ks.getD y.2 0==3||(b.getD x.2 0).testBit y.2)&&
 l.all (λx=>ks.getD x.2 0 !=3||d2e a ks b x)
def d5y(b:Nat)(a:Array Oper):List Nat:=a.toList.foldl (λc o=>c++[match b with|0=>Ra c o|1=>b2m c o|2=>b2v c o|_=>b34 a c o]) []
def kinds(b:Nat)(a:Array Oper):List Nat:=f37 a (d5y b a)
def Tb(b:Nat)(a:Array Oper):Bool:=d1d a (kinds b a)
def IU(b:Nat)(a:Array Oper)(k:Nat):List (Oper×Nat):=a.toList.zipIdx.filter λx=>(kinds b a).getD x.2 0==k
def SG(b:Nat)(a:Array Oper):List ((Oper×Nat)×List (Oper×Nat)):=(IU b a 2).map λx=>(x,(IU b a 3).filter λf=>match f.1.dst with|some d=>(NV a x.1).contains d|none=>false)
def LX(b:Nat)(a:Array Oper):List Nat:=(IU b a 3).filterMap (·.1.dst)
def NP(a:List Nat)(ρ:List Entry):List Entry:=ρ.filter λe=>a.contains e.slot
def SV.pureA:SV->Bool
 |.agg a=>a.all SV.pure
 |s=>s.pure
theorem d09{w:World}{H H':Nat->Prop}{μ μ':Mu}(c:∀b,H' b->H b){s:SV}{v:Value}(h:D w H μ s v)(a:s.pureA=true):D w H' μ' s v:=by
 unfold SV.pureA at a;split at a
 .cases h with
  |agg d e f=>exact .agg d e λi s v hs g=>GJ c (f i s v hs g) (Je.1 a s (Jb hs))
 .exact GJ c h a
def bornB(E:Env)(o:Oper):Bool:=match o.op with
 |.buildSlice _ _ _=>match o.dst with
  |some d=>E.fz d
  |none=>false
 |_=>false
def opdP(ρ:Operand->Option SV)(x:Operand):Option SV:=(ρ x).bind λs=>if s.pureA=true then some s else none
def c6w(P:Program)(ρ:Operand->Option SV)(a:Op):Option (Prop×SV):=match WS P [] (opdP ρ) a with
 |some (p,_,.row _ b n f c)=>some (p,.sl b n f c)
 |_=>none
theorem b7y{E:Env}{B0:Nat}{X A:Nat->Prop}{a:Act}{w:World}{μ:Mu}{own:List Blk}(u:Own B0 X A w μ own){ρ:Operand->Option SV}(m:∀(x:Operand) (s:SV),ρ x=some s->D w (held A μ) μ s (a.eval x)){o:Oper}{i:Prop}{s:SV}
 (l:c6w E.P ρ o.op=some (i,s)) (v:i):∃r j,(execOp a.eval o).run E.P w=.ok (.value r) j/\Fr w.heap.size (λ_=>False) w j/\D j (held A μ) μ s r:=by
 unfold c6w at l;split at l;rotate_left
 .cases l
 rename_i p y T B n f c d;cases l;have C:Own w.heap.size (λ_=>False) (held A μ) w (λ_=>none) [.row T B n f c]:=by
  refine⟨λk x h=>E9,λk k' x x' b h=>E9,λk x b h=>E9,λb e=> ?_⟩;rcases e with e|⟨k,x,g,hx⟩
  .exact u.bnd b e
  .exact(u.rng k x b g hx).1
 obtain⟨r,j,μ',F,q,h3,G⟩:=b6m (E:=E) (own:=[]) C (Jf _) rfl (ρ:=opdP ρ) (λx s hs=>by
  unfold opdP at hs;simp only[Jd]at hs;obtain⟨s1,H,t⟩:=hs;split at t
  .rename_i I;cases t;refine d09 (λb e=> ?_) (m x _ H) I;rcases e with e|⟨k,x,g,_⟩
   .exact e
   .cases g
  .cases t) d v rfl
 refine⟨r,j,F,q.fr,?_⟩;have J:∃k,y=.osl k/\k=0:=by
  unfold WS at d;split at d<;>(try simp only[Jd,Jc]at d)
  .obtain⟨z,_,d⟩:=d;split at d<;>cases d
  .obtain⟨_,_,_,_,d⟩:=d;split at d<;>cases d
  .obtain⟨_,_,_,_,d⟩:=d;cases d;exact⟨0,rfl,rfl⟩
  .obtain⟨_,_,_,_,_,_,_,_,d⟩:=d;split at d<;>cases d
   exact⟨0,rfl,rfl⟩
  .obtain⟨_,_,_,_,_,_,d⟩:=d;split at d
   .split at d<;>cases d
    exact⟨0,rfl,rfl⟩
   .cases d
  .cases d
 obtain⟨k,rfl,rfl⟩:=J;cases G with
 |osl g=>
  obtain⟨bl,e,K⟩:=q.own.blk 0 _ g;cases e;exact d1j (λb e=>.inl e) (λb e=>(q.own.rng 0 _ b g e).2.1) K
def QY(E:Env)(nt:Nat)(a:Array Oper)(ρ:List Entry)(own:List Blk)(o:Oper):Option (Prop×Option Entry×Option Blk):=
 if !JL nt o.dst then none else
 match o.guard with
 |some (j,p)=>match o.dst,(a[j]?).bind (·.dst)with
  |some d,some g=>if g<nt/\g≠d then(WT ρ 5 g p).bind λc=>match bornB E o with
   |true=>(c6w E.P (CM E ρ (some (g,p))) o.op).map λr=>(c->r.1,some ⟨d,some (g,p),r.2⟩,none)
   |false=>(RS E ⟨ρ,own⟩ (some (g,p)) o.op).map λr=>(c->r.1,some ⟨d,some (g,p),r.2⟩,none)
   else none
  |_,_=>none
 |none=>match bornB E o with
  |true=>(c6w E.P (CM E ρ none) o.op).map λr=>(r.1,o.dst.map (λd=>⟨d,none,r.2⟩),none)
  |false=>match o.op with
   |.store _ _ _=>none
   |.alloc _|.box _ _|.buildSlice _ _ _|.makeSlice _ _ _=>(WS E.P own (CM E ρ none) o.op).map λr=>(r.1,o.dst.map (λd=>⟨d,none,r.2.1⟩),some r.2.2)
   |.makeMap T r=>(c8x E (CM E ρ none) T r).map λb=>(True,o.dst.map (λd=>⟨d,none,.omp own.length⟩),some b)
   |e=>match d6k E own (CM E ρ none) e with
    |some r=>some (r.1,o.dst.map (λd=>⟨d,none,r.2.1⟩),some r.2.2)
    |none=>match d24 E own (CM E ρ none) e with
     |some r=>some (r.1,o.dst.map (λd=>⟨d,none,r.2.1⟩),some r.2.2)
     |none=>(RS E ⟨ρ,own⟩ none e).map λr=>(r.1,o.dst.map (λd=>⟨d,none,r.2⟩),none)
def PC(w:World)(H:Nat->Prop)(μ:Mu)(tmps:Array Value):Option Entry->Prop
 |none=>True
 |some e=>CZ w H μ tmps e
section
variable{E:Env}{B0:Nat}{X A:Nat->Prop}{nt:Nat}{a:Act}{w:World}{μ:Mu}
theorem c3n(hE:EnvOK E)(hC:GI E){ρ:List Entry}{own y:List Blk}(F:Own B0 X A w μ y)(S:B0<=w.heap.size)(bf:∀(k:Nat) (bl:Blk),own[k]?=some bl->y[k]?=some bl)(G:∀g s,E.glob g=some s->s.pure=true/\D w (held A μ) μ s (.pointer (some ⟨g,0,none⟩)))
 (C:EQ w (held A μ) μ a.tmps ρ) (br:a.tmps.size=nt) {U:Array Oper} {o:Oper} {V:Prop} {out:Option Entry} {bl:Option Blk} (m:QY E nt U ρ own o=some (V,out,bl)) (I:V)
 (Y:∀b,bl=some b->μ own.length=none/\y[own.length]?=some b) {K:Act->World->Prop} {Q:Exit->Act->World->Prop}
 (hK:∀v t l,After B0 X A w t μ l y->(∀j,(bl.isSome=true->j≠own.length)->l j=μ j)->PC t (held A l) l (a.put o.dst v).tmps out->K (a.put o.dst v) t):
 (out.map (·.slot)=o.dst\/out=none/\o.dst=none)/\if Region.wanted o (yielded U a.tmps)then o.wp E.P a w K Q else K (a.put o.dst undef) w:=by
 unfold QY at m;split at m
 .cases m
 rename_i g8;have hd:JL nt o.dst=true:=by simpa using g8
 have calls:∀{t:World},Fr w.heap.size (λ_=>False) w t->After B0 X A w t μ μ y:=λz=>
  ⟨F.calls z,⟨z.os,z.tape,z.output,z.drawn,z.size,λi hi _=>z.block i (K9 hi S) (λh=>h)⟩,z.keeps⟩
 split at m
 .rename_i j p kw;split at m;rotate_left
  .cases m
  rename_i d g J zw;split at m;rotate_left
  .cases m
  rename_i b6;obtain⟨b6,b9⟩:=b6;simp only[Jd]at m;obtain⟨c,Z,m⟩:=m;have R:d<a.tmps.size:=by rw[br];simpa[JL,J]using hd
  have hw:=b7u (a:=a) kw zw (by rw[br];exact b6);have no:∀s,¬a.tmps.getD g undef=.bool p->PC w (held A μ) μ (a.put o.dst undef).tmps (some ⟨d,some (g,p),s⟩):=λs hb=>by rw[J];unfold PC CZ Act.put;simp only;rw[NA R,NA R,J7 rfl,J8 b9];exact⟨λhh=>absurd hh hb,λ_=>rfl⟩
  have W:∀{s:SV} {v:Value} {t:World},a.tmps.getD g undef=.bool p->D t (held A μ) μ s v->PC t (held A μ) μ (a.put o.dst v).tmps (some ⟨d,some (g,p),s⟩):=λhb x=>by rw[J];unfold PC CZ Act.put;simp only;rw[NA R,NA R,J7 rfl,J8 b9];exact⟨λ_=>x,λu=>absurd hb u⟩
  split at m
  .simp only[Ih]at m;obtain⟨⟨p0,s⟩,hs,rfl,rfl,rfl⟩:=m;refine⟨.inl (by simp[J]),?_⟩;split
   .rename_i dv;have hb:=hw.1 dv;have f8:=b08 C 5 g p c Z hb;obtain⟨r,t,H,z,x⟩:=b7y (E:=E) F (Qn (λn s u=>(G n s u).2) C (λq b e=>by cases e;exact hb)) hs (I f8);unfold Oper.wp;rw[H];exact hK r t μ (calls z) (λ_ _=>rfl) (W hb x)
   .rename_i dv;exact De
  simp only[Ih]at m;obtain⟨⟨p0,s⟩,hs,rfl,rfl,rfl⟩:=m;refine⟨.inl (by simp[J]),?_⟩;split
  .rename_i dv;have hb:=hw.1 dv;have f8:=b08 C 5 g p c Z hb;exact b1z hE hC F bf G C (g:=some (g,p)) (λq b e=>by cases e;exact hb) hs (I f8) (λv t x z=>hK v t μ (calls z) (λ_ _=>rfl) (W hb x))
  .rename_i dv;exact De
 .rename_i kw;rw[J7 Ey];have put:∀{t:World} {l:Mu} {s:SV} {v:Value},D t (held A l) l s v->PC t (held A l) l (a.put o.dst v).tmps (o.dst.map λd=>⟨d,none,s⟩):=by
   intro t l s v x;cases J:o.dst with
   |none=>exact Ja
   |some d=>
    have R:d<a.tmps.size:=by rw[br];simpa[JL,J]using hd
    simp only[Kh];unfold PC CZ Act.put;simp only;rw[NA R,J7 rfl];exact x
  have slot:∀s:SV,((o.dst.map λd=>(⟨d,none,s⟩:Entry)).map (·.slot)=o.dst\/(o.dst.map λd=>(⟨d,none,s⟩:Entry))=none/\o.dst=none):=by intro s;cases o.dst<;>simp
  split at m
  .simp only[Ih]at m;obtain⟨⟨p0,s⟩,u,rfl,rfl,rfl⟩:=m;obtain⟨r,t,H,z,x⟩:=b7y (E:=E) F (Qn (λn s u=>(G n s u).2) C (λq b e=>E5)) u I;refine⟨slot s,?_⟩;unfold Oper.wp;rw[H];exact hK r t μ (calls z) (λ_ _=>rfl) (put x)
  split at m
  .cases m
  iterate 4
   .simp only[Ih]at m;obtain⟨⟨p0,s,b⟩,u,rfl,rfl,rfl⟩:=m;obtain⟨L,M⟩:=Y b rfl;obtain⟨r,t,l,H,N,B,x⟩:=b6m F S L (Qn (λn s u=>(G n s u).2) C (λq b e=>E5)) u I M;refine⟨slot s,?_⟩;unfold Oper.wp;rw[H];exact hK r t l N (λj O=>B j (O rfl)) (put x)
  .rename_i T r0 d9;simp only[Ih]at m;obtain⟨b,u,rfl,rfl,rfl⟩:=m;obtain⟨L,M⟩:=Y b rfl;obtain⟨r,t,l,H,N,B,x⟩:=b1v hE F S L (Qn (λn s u=>(G n s u).2) C (λq b e=>E5)) d9 u M;refine⟨slot _,?_⟩;unfold Oper.wp;rw[H];exact hK r t l N (λj O=>B j (O rfl)) (put x)
  .split at m
   .rename_i r u;simp only[Ii]at m;obtain⟨rfl,rfl,rfl⟩:=m;obtain⟨L,M⟩:=Y _ rfl;obtain⟨f,vals,bt,Z⟩:=c9x hC F S L G (Qn (λn s u=>(G n s u).2) C (λq b e=>E5)) u I M;refine⟨slot _,?_⟩;unfold Oper.wp;rw[bt];refine Z.mono ?_;rintro e t ⟨v,l,rfl,N,B,x⟩;exact hK v t l N (λj O=>B j (O rfl)) (put x)
   split at m
   .rename_i r u;simp only[Ii]at m;obtain⟨rfl,rfl,rfl⟩:=m;obtain⟨L,M⟩:=Y _ rfl;obtain⟨v,t,l,H,N,B,x⟩:=d07 F bf S L (Qn (λn s u=>(G n s u).2) C (λq b e=>E5)) u I M;refine⟨slot _,?_⟩;unfold Oper.wp;rw[H];exact hK v t l N (λj O=>B j (O rfl)) (put x)
   .simp only[Ih]at m;obtain⟨⟨p0,s⟩,hs,rfl,rfl,rfl⟩:=m;refine⟨slot s,?_⟩;exact b1z hE hC F bf G C (g:=none) (λq b e=>E5) hs I (λv t x z=>hK v t μ (calls z) (λ_ _=>rfl) (put x))
end
structure PI where
 o:Oper
 i:Nat
 own:List Blk
 out:Option Entry
 al:Option Blk
def Oc(a:List Nat)(e:Entry):Entry:=match e.guard with
 |some (g,_)=>if a.contains g then {e with guard:=none,sv:=.any}else e
 |none=>e
def QE(out:Option Entry)(a:List Entry):List Entry:=match out with
 |some e=>e::a
 |none=>a
def fO(o:Option Entry)(K:Option Entry->Prop):Prop:=match o with
 |none=>K none
 |some ⟨n,g,s⟩=>fG g λg=>s.f2 λs=>K (some ⟨n,g,s⟩)
theorem fO_eq(o:Option Entry)(K:Option Entry->Prop):fO o K=K o:=by
 match o with
 |none=>rfl
 |some ⟨n,g,s⟩=>simp only[fO,d9g,SV.f2_eq]
def fA(own:List Blk)(c:Option Blk)(K:Option Blk->List Blk->Prop):Prop:=match c with
 |none=>K none own
 |some b=>fB (own++[b]) λa=>K (some b) a
theorem fA_eq(own:List Blk)(a:Option Blk)(K:Option Blk->List Blk->Prop):fA own a K=K a (own++a.toList):=by
 cases a
 .simp[fA]
 .simp[fA,Ux]
def parK(E:Env)(e:Nat)(a:Array Oper)(ρ0:List Entry)(K:List PI->List Entry->List Blk->Prop):List (Oper×Nat)->List PI->List Entry->List Blk->Prop
 | [],done,c,own=>K done c own
 |(o,i)::r,done,c,own=>match QY E e a (NP (NV a o) (c++ρ0)) own o with
  |some (p,out,d)=>KM p/\fO out λout=>fA own d λd b=>parK E e a ρ0 K r (⟨o,i,own,out,d⟩::done) (QE out c) b
  |none=>False
def UK(ps:List PI)(i:Nat):List Entry:=(ps.filter λq=>decide (q.i<i)).filterMap (·.out)
def Ui(E:Env)(b:Nat)(a:Array Oper)(ρ0:List Entry)(ps:List PI)(sd:List Oper)(own:List Blk):List PI->Prop
 | []=>True
 |q::r=>if sd.any (λs=>FA s q.i)then Ui E b a ρ0 ps sd own r else match QY E b a (NP (NV a q.o) (UK ps q.i++ρ0)) own q.o with
  |some (p,out,none)=>KM p/\QQ out q.out/\Ui E b a ρ0 ps sd own r
  |_=>False
def c76(E:Env)(b nb:Nat)(ρ:List Entry)(own:List Blk)(o:Oper):Option (Prop×List Blk×Option Entry):=match o.op with
 |.store T p x=>(CM E ρ none p).bind λc=>(CM E ρ none x).bind λe=>(TN E.P own T c e).bind λr=>match o.dst with
  |none=>some (r.1,r.2,none)
  |some _=>none
 |_=>match b8s E own (CM E ρ none) o.op with
  |some (p,s,a,[])=>match Nat.beq own.length nb&&Nat.beq a.length nb&&JL b o.dst with
   |true=>some (p,a,o.dst.map λd=>⟨d,none,s⟩)
   |false=>none
  |_=>none
def b9v(E:Env)(c nb:Nat)(b:Array Oper)(ρ0:List Entry)(ps:List PI)(K:List Entry->List Blk->Prop):List (Oper×Nat)->List Oper->List Entry->List Blk->Prop
 | [],_,d,own=>K d own
 |(o,i)::r,e,d,own=>match c76 E c nb (NP (NV b o) (UK ps i++ρ0)) own o with
  |some (p,a,out)=>KM p/\fO out λout=>fB a λa=>Ui E c b ρ0 ps (o::e) a ps/\b9v E c nb b ρ0 ps K r (o::e) (QE out d) a
  |none=>False
def Qj(a:List Nat)(ρ:List Entry):List Entry:=(ρ.filter λe=> !a.contains e.slot).map (Oc a)
def RK(E:Env)(c:Nat)(d:Nat)(a:Array Oper)(e:List Nat)(K:St->Prop):List ((Oper×Nat)×List (Oper×Nat))->St->Prop
 | [],b=>Oa E d a K ((IU c a 3).map (·.1)) b
 |g::r,b=>Oa E d a (λb=>St.force ⟨Qj e b.ρ,b.own⟩ (RK E c d a e K r)) (g.2.map (·.1)++[g.1.1]) b
def d7g(E:Env)(c:Nat)(b:Nat)(a:Array Oper)(K:St->Prop)(st:St):Prop:=match LX c a with
 | []=>Oa E b a K ((IU c a 2).map (·.1)) st
 |d::e=>St.force ⟨Qj (d::e) st.ρ,st.own⟩ (RK E c b a (d::e) K (SG c a))
def kb(c:Bool)(a:Array Oper):Nat:=match c with
 |true=>match Tb 1 a with
  |true=>1
  |false=>match Tb 2 a with
   |true=>2
   |false=>0
 |false=>match a.toList.any (f3i a)with
  |true=>match Tb 0 a with
   |true=>0
   |false=>3
  |false=>0
def d81(E:Env)(d:Nat)(a:Array Oper)(K:St->Prop)(st:St):Prop:=PW (kb E.c2 a) λc=>
 let b:=(st.ρ.filter λe=> !(LX c a).contains e.slot).map (Oc (a.toList.filterMap (·.dst)))
 fE b λb=>parK E d a b (λf g own=>b9v E d st.own.length a b f (λh own=>d7g E c d a K ⟨h++(g++b),own⟩) (IU c a 1) [] [] own) (IU c a 0) [] [] st.own
def Ru(ps:List PI)(ρ0:List Entry)(i:Nat)(ρ:List Entry):Prop:=
 ∀t e,CK t ρ=some e->(∃q∈ps,q.i<i/\q.out=some e)\/(CK t ρ0=some e/\∀q∈ps,q.i<i->∀a,q.out=some a->a.slot≠t)
theorem b4v{t:Nat}:∀(l r:List Entry),CK t (l++r)=match CK t l with|some e=>some e|none=>CK t r
 | [],r=>rfl
 |x::l,r=>by
  simp only[Mh,CK];split
  .rfl
  .exact b4v l r
theorem b2t{t:Nat}:∀{l:List Entry},CK t l=none↔∀e∈l,e.slot≠t
 | []=>by simp[CK]
 |x::l=>by
  simp only[CK,Ji,forall_eq_or_imp];split
  .rename_i h;simp[h]
  .rename_i h;rw[b2t];simp[h]
theorem NX{t:Nat}{e:Entry}:∀{l:List Entry},CK t l=some e->e∈l
 | [],h=>by simp[CK]at h
 |x::l,h=>by
  simp only[CK]at h;split at h
  .cases h;simp
  .exact Ju _ (NX h)
theorem b5x{ps:List PI}{ρ0 b:List Entry}{i:Nat}(d:∀e∈b,∃q∈ps,q.i<i/\q.out=some e)(f:∀q∈ps,q.i<i->∀e,q.out=some e->e∈b):Ru ps ρ0 i (b++ρ0):=by
 intro t e a;rw[b4v]at a;split at a
 .rename_i x hx;cases a;exact .inl (d _ (NX hx))
 .rename_i g;exact .inr ⟨a,λq h j c k=>b2t.1 g c (f q h j c k)⟩
theorem b1s{ps:List PI}{ρ0:List Entry}{i:Nat}:Ru ps ρ0 i (UK ps i++ρ0):=by
 refine b5x (λe a=> ?_) (λq b c e a=> ?_)
 .simp only[UK,Na,Ku,Jh]at a;obtain⟨q,⟨b,c⟩,d⟩:=a;exact⟨q,b,c,d⟩
 .simp only[UK,Na,Ku,Jh];exact⟨q,⟨b,c⟩,a⟩
structure ParOK (E:Env) (nt:Nat) (ops:Array Oper) (ρ0:List Entry) (base own0:List Blk) (ps:List PI):Prop where
 step:∀q∈ps,∃ρ p,Ru ps ρ0 q.i ρ/\QY E nt ops (NP (NV ops q.o) ρ) q.own q.o=some (p,q.out,q.al)/\p
 sub:∀q∈ps,(∀(k:Nat) (bl:Blk),q.own[k]?=some bl->own0[k]?=some bl)/\∀b,q.al=some b->own0[q.own.length]?=some b
 low:∀q∈ps,base.length<=q.own.length
 one:∀q∈ps,∀q'∈ps,q.al.isSome=true->q'.al.isSome=true->q.own.length=q'.own.length->q.i=q'.i
 base:∀(k:Nat) (bl:Blk),base[k]?=some bl->own0[k]?=some bl
 top:∀q∈ps,q.al.isSome=true->q.own.length<own0.length
theorem g16{E:Env}{H:Nat}{s:Array Oper}{ρ0:List Entry}{base:List Blk}{K:List PI->List Entry->List Blk->Prop}:∀(l:List (Oper×Nat)) (done:List PI) (m:List Entry) (own:List Blk),parK E H s ρ0 K l done m own->
 ParOK E H s ρ0 base own done->(∀e∈m,∃q∈done,q.out=some e)->(∀q∈done,∀e,q.out=some e->e∈m)->(∀q∈done,∀x∈l,q.i<x.2)->l.Pairwise (λx y=>x.2<y.2)->base.length<=own.length->(∀q∈done,∀d∈done,q.i=d.i->q=d)->
 ∃n u f,ParOK E H s ρ0 base f n/\(∀e,e∈u↔∃q∈n,q.out=some e)/\K n u f/\(∀q,q∈n->q∈done\/(q.o,q.i)∈l)/\(∀x∈l,∃q∈n,q.o=x.1/\q.i=x.2)/\(∀q∈done,q∈n)/\base.length<=f.length/\∀q∈n,∀d∈n,q.i=d.i->q=d:=by
 intro l;induction l with
 |nil=>
  intro done m own h r G I _ _ w P;exact⟨done,m,own,r,λe=>⟨G e,λ⟨q,a,z⟩=>I q a e z⟩,h,λq a=>.inl a,λx hx=>by simp at hx,λq a=>a,w,P⟩
 |cons x l ih=>
  intro done m own h r G I X Q w P;obtain⟨o,i⟩:=x;simp only[parK]at h;split at h;rotate_left
  .exact h.elim
  rename_i p out g hs;rw[fO_eq,fA_eq]at h;obtain⟨R,h⟩:=h;replace R:=R.out;rw[Kn]at Q;have J:∀q∈done,q.i<i:=λq a=>X q a (o,i) Dz;have A:∀q∈done,∀B,Ru done ρ0 q.i B->Ru (⟨o,i,own,out,g⟩::done) ρ0 q.i B:=by
   intro q a B S t e c;rcases S t e c with⟨d,j,L,T⟩|⟨U,hn⟩
   .exact .inl ⟨d,Ju _ j,L,T⟩
   .refine .inr ⟨U,λd j L e' T=> ?_⟩;rcases Ji.1 j with rfl|j
    .have:=J q a;simp only at L;omega
    .exact hn d j L e' T
  have M:∀(k:Nat) (v:Blk),own[k]?=some v->(own++g.toList)[k]?=some v:=λk v C=>by rw[Jg (J9.1 C).1];exact C
  have fi:Ru (⟨o,i,own,out,g⟩::done) ρ0 i (m++ρ0):=by
   refine b5x (λe c=> ?_) (λq a hi e c=> ?_)
   .obtain⟨q,a,z⟩:=G e c;exact⟨q,Ju _ a,J q a,z⟩
   .rcases Ji.1 a with rfl|a
    .simp only at hi;omega
    .exact I q a e c
  have V:ParOK E H s ρ0 base (own++g.toList) (⟨o,i,own,out,g⟩::done):=by
   refine⟨λq a=> ?_,λq a=> ?_,λq a=> ?_,λq a d j F Y c=> ?_,λk v C=>M k v (r.base k v C),λq a F=> ?_⟩
   .rcases Ji.1 a with rfl|a
    .exact⟨m++ρ0,p,fi,hs,R⟩
    .obtain⟨B,p',N,O,e3⟩:=r.step q a;exact⟨B,p',A q a B N,O,e3⟩
   .rcases Ji.1 a with rfl|a
    .refine⟨M,λb w=> ?_⟩;simp only at w;subst w;simp
    .obtain⟨s1,s2⟩:=r.sub q a;exact⟨λk v C=>M k v (s1 k v C),λb w=>M _ _ (s2 b w)⟩
   .rcases Ji.1 a with rfl|a
    .exact w
    .exact r.low q a
   .rcases Ji.1 a with rfl|a<;>rcases Ji.1 j with rfl|j
    .rfl
    .have:=r.top d j Y;simp only at c;omega
    .have:=r.top q a F;simp only at c;omega
    .exact r.one q a d j F Y c
   .rcases Ji.1 a with rfl|a
    .simp only at F⊢;cases g with
     |none=>simp at F
     |some b=>simp
    .have:=r.top q a F;rw[K5];omega
  have k1:∀e∈QE out m,∃q∈(⟨o,i,own,out,g⟩:PI)::done,q.out=some e:=by
   intro e c;unfold QE at c;split at c
   .rename_i e0;rcases Ji.1 c with rfl|c
    .exact⟨_,Nb,rfl⟩
    .obtain⟨q,a,z⟩:=G e c;exact⟨q,Ju _ a,z⟩
   .obtain⟨q,a,z⟩:=G e c;exact⟨q,Ju _ a,z⟩
  have k2:∀q∈(⟨o,i,own,out,g⟩:PI)::done,∀e,q.out=some e->e∈QE out m:=by
   intro q a e c;unfold QE;rcases Ji.1 a with rfl|a
   .simp only at c;subst c;simp
   .have:=I q a e c;split
    .exact Ju _ this
    .exact this
  have k3:∀q∈(⟨o,i,own,out,g⟩:PI)::done,∀x∈l,q.i<x.2:=by
   intro q a x hx;rcases Ji.1 a with rfl|a
   .exact Q.1 x hx
   .exact X q a x (Ju _ hx)
  have k4:∀q∈(⟨o,i,own,out,g⟩:PI)::done,∀d∈(⟨o,i,own,out,g⟩:PI)::done,q.i=d.i->q=d:=by
   intro q a d j e;rcases Ji.1 a with N|Z<;>rcases Ji.1 j with O|kq
   .rw[N,O]
   .rw[N]at e;have:=J d kq;simp only at e;omega
   .rw[O]at e;have:=J q Z;simp only at e;omega
   .exact P q Z d kq e
  obtain⟨n,u,f,r1,r2,r3,r4,r5,r6,r7,r8⟩:=ih (⟨o,i,own,out,g⟩::done) (QE out m) (own++g.toList) h V k1 k2 k3 Q.2 (by rw[K5];omega) k4;refine⟨n,u,f,r1,r2,r3,λq a=> ?_,λx hx=> ?_,λq a=>r6 q (Ju _ a),r7,r8⟩
  .rcases r4 q a with W|U
   .rcases Ji.1 W with rfl|W
    .exact .inr Nb
    .exact .inl W
   .exact .inr (Ju _ U)
  .rcases Ji.1 hx with rfl|hx
   .exact⟨⟨o,i,own,out,g⟩,r6 _ Nb,rfl,rfl⟩
   .exact r5 x hx
structure Draws (b:Nat) (ops:Array Oper):Prop where
 lt:∀(i:Nat) (o:Oper) (j:Nat),ops[i]?=some o->FA o j=true->j<i
 uniq:∀(i:Nat) (o:Oper) (j:Nat) (o':Oper) (d:Nat),ops[i]?=some o->ops[j]?=some o'->o.dst=some d->o'.dst=some d->i=j
 names:∀(i:Nat) (o:Oper) (t j:Nat) (o':Oper),ops[i]?=some o->(kinds b ops).getD i 0≠2->t∈NV ops o->ops[j]?=some o'->j≠i->o'.dst=some t->if j<i/\(kinds b ops).getD j 0=0 then Reach ops i j else Reach ops j i
 store:∀(i:Nat) (o:Oper),ops[i]?=some o->(kinds b ops).getD i 0=1->o.guard=none/\∀(j:Nat) (o':Oper),ops[j]?=some o'->j<i->(kinds b ops).getD j 0=1->FA o j=true
 guard:∀(i:Nat) (o:Oper) (j:Nat) (p:Bool),ops[i]?=some o->o.guard=some (j,p)->FA o j=true
 last:∀(i:Nat) (o:Oper) (j:Nat) (o':Oper),ops[i]?=some o->(kinds b ops).getD i 0=2->ops[j]?=some o'->j≠i->¬((kinds b ops).getD j 0=2/\i<j)->(kinds b ops).getD j 0≠3->Reach ops i j
 free:∀(i:Nat) (o:Oper),ops[i]?=some o->(kinds b ops).getD i 0=3->∃s d,QA o=some (s,d)/\∀(j:Nat) (o':Oper),ops[j]?=some o'->o'.dst≠some s/\(d∈NV ops o'->(kinds b ops).getD j 0=2/\Reach ops j i)
theorem OA{ops:Array Oper}{i:Nat}{o:Oper}(h:ops[i]?=some o):(o,i)∈ops.toList.zipIdx:=by rw[List.mk_mem_zipIdx_iff_getElem?];simpa using h
theorem g0d{ops:Array Oper}{i:Nat}{o:Oper}(h:(o,i)∈ops.toList.zipIdx):ops[i]?=some o:=by rw[List.mk_mem_zipIdx_iff_getElem?]at h;simpa using h
theorem b6q:∀{l:List Nat},Rc l=true->l.Nodup
 | [],_=>N6
 |x::r,h=>by simp only[Rc,J3,Ni,Lc]at h;exact L5.2 ⟨h.1,b6q h.2⟩
theorem b8h{l:List (Oper×Nat)}(e:l.Pairwise (λx y=>x.2≠y.2))(h:(l.filterMap λx=>x.1.dst).Nodup):∀x∈l,∀y∈l,∀d,x.1.dst=some d->y.1.dst=some d->x=y:=by
 induction l with
 |nil=>intro x hx;simp at hx
 |cons z l m=>
  rw[Kn]at e;have n:(l.filterMap λx=>x.1.dst).Nodup:=by
   rw[List.filterMap_cons]at h;split at h
   .exact h
   .exact(L5.1 h).2
  have f:∀y∈l,∀d,z.1.dst=some d->y.1.dst=some d->False:=by intro y c d a b;rw[List.filterMap_cons,a]at h;exact(L5.1 h).1 (Na.2 ⟨y,c,b⟩)
  intro x hx y c d a b;rcases Ji.1 hx with g|i<;>rcases Ji.1 c with j|k
  .rw[g,j]
  .rw[g]at a;exact(f y k d a b).elim
  .rw[j]at b;exact(f x i d b a).elim
  .exact m e.2 n x i y k d a b
theorem c5q(ops:Array Oper):ops.toList.zipIdx.Pairwise (λx y=>x.2<y.2):=by rw[Kg];intro i j hi hj f6;simp only[List.getElem_zipIdx];omega
theorem d8x{m:Nat}{ops:Array Oper}(h:Tb m ops=true):Draws m ops:=by
 unfold Tb d1d at h;simp only[K6]at h;obtain⟨⟨⟨⟨⟨⟨u,C⟩,v⟩,w⟩,x⟩,y⟩,z⟩:=h;rw[Je]at u v w y x z;refine⟨λi o j a A=> ?_,λi o j k d a b f E=> ?_,λi o t j k a c F b n f=> ?_,λi o a c=> ?_,λi o j p a q=> ?_,λi o j k a c b n G r=> ?_,λi o a c=> ?_⟩
 .have:=Je.1 (u _ (OA a));simp only[FA,Jp,Iy]at A;obtain⟨e,H,I,rfl⟩:=A;have:=this e H;rw[I]at this;simpa using this
 .have:=b8h ((c5q ops).imp λh=>Nat.ne_of_lt h) (b6q C) _ (OA a) _ (OA b) d f E;exact Mf Prod.snd this
 .have:=v _ (OA a);simp only[Kd,M5]at this;rcases this with h|h
  .exact absurd h c
  .have:=Je.1 (Je.1 h t F) _ (OA b);simp only[Kd,M5,bne_iff_ne,ne_eq]at this;rcases this with(h|h)|h
   .exact absurd h n
   .exact absurd f h
   .by_cases g:j<i/\(kinds m ops).getD j 0=0
    .rw[J7 g];rw[J7 ⟨by simpa using g.1,g.2⟩]at h;exact b0t h
    .rw[J8 g];rw[J8 (λB=>g ⟨by simpa using B.1,B.2⟩)]at h;exact b0t h
 .have:=w _ (OA a);simp only[Kd,bne_iff_ne,ne_eq,Iy,Option.isNone_iff_eq_none]at this;rcases this with h|⟨⟨_,q⟩,hs⟩
  .exact absurd c h
  .refine⟨q,λj k b J K=> ?_⟩;have:=Je.1 hs _ (OA b);rw[Kd]at this;rcases this with h|h
   .exfalso;rw[Jr J,K]at h;simp at h
   .exact h
 .have:=x _ (OA a);simp only[q]at this;exact this
 .have:=y _ (OA a);simp only[Kd,bne_iff_ne,ne_eq]at this;rcases this with h|h
  .exact absurd c h
  .have:=Je.1 h _ (OA b);simp only[Kd,M5,Ip]at this;rcases this with((h|h)|h)|h
   .exact absurd h n
   .exact absurd h G
   .exact absurd h r
   .exact b0t h
 .have:=z _ (OA a);simp only[Kd,bne_iff_ne,ne_eq]at this;rcases this with h|h
  .exact absurd c h
  .unfold d2e at h;split at h
   .rename_i s d L;refine⟨s,d,L,λj k b=> ?_⟩;have:=Je.1 h _ (OA b);simp only[Iy,bne_iff_ne,ne_eq,Kd,Bool.not_eq_true',Ni,Lc]at this;refine⟨this.1,λf=> ?_⟩;rcases this.2 with l|l
    .exact absurd f l
    .exact⟨l.1,b0t l.2⟩
   .cases h
theorem Oe{c:Nat}{ops:Array Oper}{k i:Nat}{o:Oper}:(o,i)∈IU c ops k↔ops[i]?=some o/\(kinds c ops).getD i 0=k:=by unfold IU;rw[Ku];simp only[M5];exact⟨λ⟨a,b⟩=>⟨g0d a,b⟩,λ⟨a,b⟩=>⟨OA a,b⟩⟩
theorem Pb{o:Oper}{s d:Nat}(h:QA o=some (s,d)):o.dst=some d:=by
 unfold QA at h;split at h
 .cases h;assumption
 .cases h
theorem c17{o:Oper}{s d:Nat}(h:QA o=some (s,d)):o.op=.move (.tmp s)/\o.guard=none:=by
 unfold QA at h;split at h
 .cases h;exact⟨E2,E2⟩
 .cases h
theorem Ri{c:Nat}{ops:Array Oper}{d:Nat}:d∈LX c ops↔∃i o,ops[i]?=some o/\(kinds c ops).getD i 0=3/\o.dst=some d:=by
 unfold LX;rw[Na];constructor
 .rintro⟨⟨o,i⟩,a,b⟩;obtain⟨e,f⟩:=Oe.1 a;exact⟨i,o,e,f,b⟩
 .rintro⟨i,o,a,b,g⟩;exact⟨(o,i),Oe.2 ⟨a,b⟩,g⟩
theorem b21(a:Nat)(ops:Array Oper)(k:Nat):(IU a ops k).Pairwise (λx y=>x.2<y.2):=(c5q ops).filter _
theorem b03{c:List Nat}{t:Nat}{e:Entry}:∀{ρ:List Entry},CK t (NP c ρ)=some e->t∈c/\CK t ρ=some e
 | [],h=>by simp[NP,CK]at h
 |x::r,h=>by
  simp only[NP,List.filter_cons]at h;split at h
  .rename_i a;simp only[CK]at h⊢;split at h
   .rename_i hs;cases h;exact⟨by rw[<-hs];simpa using a,by rw[J7 hs]⟩
   .rename_i hs;obtain⟨h1,b⟩:=b03 (ρ:=r) h;exact⟨h1,by rw[J8 hs];exact b⟩
  .rename_i a;obtain⟨h1,b⟩:=b03 (ρ:=r) h;refine⟨h1,?_⟩;simp only[CK];rw[J8 (λhs=>by subst hs;exact a Ev)];exact b
theorem TM{E:Env}{nt:Nat}{ops:Array Oper}{ρ:List Entry}{own:List Blk}{o:Oper}{p:Prop}{out:Option Entry}{l:Option Blk}(a:QY E nt ops ρ own o=some (p,out,l)):
 out.map (·.slot)=o.dst/\(∀e,out=some e->∀g b,e.guard=some (g,b)->∃j h,o.guard=some (j,h)/\(ops[j]?).bind (·.dst)=some g):=by
 have slot:∀s:SV,(o.dst.map λd=>(⟨d,none,s⟩:Entry)).map (·.slot)=o.dst:=by intro s;cases o.dst<;>simp
 have noguard:∀s:SV,∀e,(o.dst.map λd=>(⟨d,none,s⟩:Entry))=some e->∀g b,e.guard=some (g,b)->∃j h,o.guard=some (j,h)/\(ops[j]?).bind (·.dst)=some g:=by intro s e a g b i;rw[Jc]at a;obtain⟨d,_,rfl⟩:=a;cases i
 unfold QY at a;split at a
 .cases a
 split at a
 .rename_i j f m;split at a;rotate_left
  .cases a
  rename_i d g n q;split at a;rotate_left
  .cases a
  simp only[Jd]at a;obtain⟨c,hc,a⟩:=a;split at a;all_goals
   simp only[Ih]at a;obtain⟨⟨p1,s⟩,hs,rfl,rfl,rfl⟩:=a;refine⟨by simp[n],λe a g' b i=> ?_⟩;cases a;cases i;exact⟨j,f,m,q⟩
 .split at a
  .simp only[Ih]at a;obtain⟨⟨f,s⟩,k,rfl,rfl,rfl⟩:=a;exact⟨slot s,noguard s⟩
  split at a
  .cases a
  iterate 4
   .simp only[Ih]at a;obtain⟨⟨f,s,b⟩,k,rfl,rfl,rfl⟩:=a;exact⟨slot s,noguard s⟩
  .simp only[Ih]at a;obtain⟨b,k,rfl,rfl,rfl⟩:=a;exact⟨slot _,noguard _⟩
  .split at a
   .simp only[Ii]at a;obtain⟨rfl,rfl,rfl⟩:=a;exact⟨slot _,noguard _⟩
   split at a
   .simp only[Ii]at a;obtain⟨rfl,rfl,rfl⟩:=a;exact⟨slot _,noguard _⟩
   .simp only[Ih]at a;obtain⟨⟨f,s⟩,hs,rfl,rfl,rfl⟩:=a;exact⟨slot s,noguard s⟩
theorem b14(a:List Nat)(e:Entry):(Oc a e).slot=e.slot:=by unfold Oc;split<;>(try split)<;>rfl
theorem b60{E:Env}{nt:Nat}{ops:Array Oper}{ρ0:List Entry}{ps:List PI}{sd:List Oper}{own:List Blk}:∀{l:List PI},Ui E nt ops ρ0 ps sd own l->∀q∈l,(∃s∈sd,FA s q.i=true)\/
 ∃p,QY E nt ops (NP (NV ops q.o) (UK ps q.i++ρ0)) own q.o=some (p,q.out,none)/\p
 | [],_,q,a=>by simp at a
 |x::r,h,q,a=>by
  simp only[Ui]at h;split at h
  .rename_i b;rcases Ji.1 a with rfl|a
   .exact .inl (by simpa using b)
   .exact b60 h q a
  .split at h
   .rename_i p out hs;rcases Ji.1 a with rfl|a
    .exact .inr ⟨p,by rw[<-h.2.1.out];exact hs,h.1.out⟩
    .exact b60 h.2.2 q a
   .exact h.elim
theorem b73{P:Program}{own own':List Blk}{T:TypeId}{p x:SV}{b:Prop}(a:TN P own T p x=some (b,own')):own'.length=own.length:=by
 unfold TN at a;simp only[Is]at a;obtain⟨n,hn,us,ke,a⟩:=a;repeat' split at a
 all_goals first|(cases a;simp;done)|cases a
section
variable{E:Env}{B0:Nat}{X A:Nat->Prop}{w0:World}{nt:Nat}{ops:Array Oper}{st:St}{a0:Act}{ρ0:List Entry}{ps:List PI}{es:List Entry}{own0:List Blk}{K:St->Prop}
def Ld(listed:Array Bool)(i:Nat):Prop:=listed.getD i true=true
structure Inv1 (E:Env) (B0:Nat) (X A:Nat->Prop) (w0:World) (nt:Nat) (ops:Array Oper) (st:St) (a0:Act) (ρ0:List Entry) (ps:List PI) (es:List Entry) (own0:List Blk) (K:St->Prop)
 (listed:Array Bool) (a:Act) (w:World) (μ:Mu) (sd:List Oper) (xs:List Entry) (sr:List (Oper×Nat)) (om:List Blk):Prop where
 own:Own B0 X A w μ om
 len:om.length=own0.length
 fr:Fr B0 X w0 w
 base:B0<=w.heap.size
 glo:∀g s,E.glob g=some s->s.pure=true/\D w (held A μ) μ s (.pointer (some ⟨g,0,none⟩))
 dfr:a.defers=[]
 size:a.tmps.size=nt
 sk:b9v E nt st.own.length ops ρ0 ps (λxs own=>d7g E (kb E.c2 ops) nt ops K ⟨xs++(es++ρ0),own⟩) sr sd xs om
 late:om=own0\/Ui E nt ops ρ0 ps sd om ps
 sdL:∀s∈sd,∃i,ops[i]?=some s/\(kinds (kb E.c2 ops) ops).getD i 0=1/\Ld listed i
 xsE:∀e∈xs,e.guard=none/\CZ w (held A μ) μ a.tmps e/\∃s∈sd,s.dst=some e.slot
 xsA:∀s∈sd,∀d,s.dst=some d->∃e∈xs,e.slot=d
 srU:∀x∈sr,ops[x.2]?=some x.1/\(kinds (kb E.c2 ops) ops).getD x.2 0=1/\¬Ld listed x.2
 srA:∀(i:Nat) (o:Oper),ops[i]?=some o->(kinds (kb E.c2 ops) ops).getD i 0=1->¬Ld listed i->(o,i)∈sr
 srP:sr.Pairwise (λx y=>x.2<y.2)
 ent:∀q∈ps,Ld listed q.i->PC w (held A μ) μ a.tmps q.out
 tmp:∀t,(∀q∈ps,Ld listed q.i->q.o.dst≠some t)->t∉LX (kb E.c2 ops) ops->(∀s∈sd,s.dst≠some t)->a.tmps.getD t undef=a0.tmps.getD t undef
 frd:∀(i:Nat) (o:Oper) (s d:Nat),ops[i]?=some o->(kinds (kb E.c2 ops) ops).getD i 0=3->QA o=some (s,d)->Ld listed i->d<nt->a.tmps.getD d undef=a0.tmps.getD s undef
 fresh:∀k,st.own.length<=k->(∀q∈ps,Ld listed q.i->q.al.isSome=true->q.own.length≠k)->μ k=none
 env0:EQ w (held A μ) μ a0.tmps ρ0
 closed:∀(i:Nat) (o:Oper) (j:Nat),ops[i]?=some o->Ld listed i->FA o j=true->Ld listed j
 anc:∀k x,E.an k=some x->μ k=some x
 no2:∀(i:Nat) (o:Oper),ops[i]?=some o->(kinds (kb E.c2 ops) ops).getD i 0=2->¬Ld listed i
theorem b13{ops:Array Oper}{listed:Array Bool}(c:∀(i:Nat) (o:Oper) (j:Nat),ops[i]?=some o->Ld listed i->FA o j=true->Ld listed j){i j:Nat}(h:Reach ops i j):Ld listed i->Ld listed j:=by
 induction h with
 |one h a=>exact λb=>c _ _ _ h b a
 |more h a _ d=>exact λb=>d (c _ _ _ h b a)
theorem b0c{ops:Array Oper}{listed:Array Bool}(d:∀(i:Nat) (o:Oper) (j:Nat),ops[i]?=some o->Ld listed i->FA o j=true->Ld listed j){i j:Nat}(h:Reach ops i j){o:Oper}(a:ops[i]?=some o)(c:∀j,FA o j=true->Ld listed j):Ld listed j:=by
 cases h with
 |one h b=>rw[h]at a;cases a;exact c _ b
 |more h b e=>rw[h]at a;cases a;exact b13 d e (c _ b)
structure Fixed (E:Env) (nt:Nat) (ops:Array Oper) (st:St) (ρ0:List Entry) (ps:List PI) (es:List Entry) (own0:List Blk):Prop where
 dr:Draws (kb E.c2 ops) ops
 par:ParOK E nt ops ρ0 st.own own0 ps
 pin:∀q∈ps,ops[q.i]?=some q.o/\(kinds (kb E.c2 ops) ops).getD q.i 0=0
 pall:∀(i:Nat) (o:Oper),ops[i]?=some o->(kinds (kb E.c2 ops) ops).getD i 0=0->∃q∈ps,q.o=o/\q.i=i
 es:∀e,e∈es↔∃q∈ps,q.out=some e
 fno:∀e∈ρ0,e.slot∉LX (kb E.c2 ops) ops
 gno:∀e∈ρ0,∀g b,e.guard=some (g,b)->∀(i:Nat) (o:Oper),ops[i]?=some o->o.dst≠some g
 top:st.own.length<=own0.length
 uni:∀q∈ps,∀q'∈ps,q.i=q'.i->q=q'
variable{listed:Array Bool}{a:Act}{w:World}{μ:Mu}{sd:List Oper}{xs:List Entry}{sr:List (Oper × Nat)}{om:List Blk}
theorem f3q(c:Fixed E nt ops st ρ0 ps es own0)(h:Inv1 E B0 X A w0 nt ops st a0 ρ0 ps es own0 K listed a w μ sd xs sr om){i:Nat}{o:Oper}(r:ops[i]?=some o)(y:(kinds (kb E.c2 ops) ops).getD i 0≠2)(_:(kinds (kb E.c2 ops) ops).getD i 0≠3)(hi:¬Ld listed i)(V:∀j,FA o j=true->Ld listed j)
 {ρ:List Entry} (H:Ru ps ρ0 i ρ):EQ w (held A μ) μ a.tmps (NP (NV ops o) ρ):=by
 intro t e z;obtain⟨B,z⟩:=b03 z;have R:=MJ z;rcases H t e z with⟨q,k,C,S⟩|⟨F,W⟩
 .obtain⟨I,p,_,hs,_⟩:=c.par.step q k;have f:q.o.dst=some t:=by
   have:=(TM hs).1;rw[S]at this;rw[<-this];simp[R]
  obtain⟨J,T⟩:=c.pin q k;have:=c.dr.names i o t q.i q.o r y B J (Nat.ne_of_lt C) f;rw[J7 ⟨C,T⟩]at this;have:=h.ent q k (b0c h.closed this r V);rw[S]at this;exact this
 .have l:=h.env0 t e F;have m:∀u,(∀q∈ps,Ld listed q.i->q.o.dst≠some u)->u∉LX (kb E.c2 ops) ops->(∀s∈sd,s.dst≠some u)->a.tmps.getD u undef=a0.tmps.getD u undef:=h.tmp;have v:a.tmps.getD t undef=a0.tmps.getD t undef:=by
   refine m t (λq k x f=> ?_) (λL=>by
    obtain⟨j,M,N,U,O⟩:=Ri.1 L;obtain⟨s,d,f1,f2⟩:=c.dr.free j M N U;have f:d=t:=by have:=Pb f1;rw[O]at this;exact(Kf this).symm
    subst f;exact y ((f2 i o r).2 B).1) (λs hs f=>by
    obtain⟨j,P,du,x⟩:=h.sdL s hs;have G:j≠i:=λe=>hi (e▸x);have:=c.dr.names i o t j s r y B P G f;rw[J8 Dx]at this;exact hi (b13 h.closed this x))
   obtain⟨J,T⟩:=c.pin q k;have G:q.i≠i:=λe=>hi (e▸x);rcases Mt G with C|s9
   .obtain⟨I,p,_,hs,_⟩:=c.par.step q k;have Q:=(TM hs).1;rw[f]at Q;rw[Jc]at Q;obtain⟨Y,Z,hs'⟩:=Q;exact W q k C Y Z hs'
   .have:=c.dr.names i o t q.i q.o r y B J G f;rw[J8 Dx]at this;exact hi (b13 h.closed this x)
  unfold CZ at l⊢;rw[R]at l⊢;split
  .rename_i n;rw[n]at l;simp only at l;rw[v];exact l
  .rename_i g b n;rw[n]at l;simp only at l;have sg:a.tmps.getD g undef=a0.tmps.getD g undef:=m g (λq k _ f=>c.gno e (NX F) g b n q.i q.o (c.pin q k).1 f) (λL=>by
    obtain⟨j,M,N,U,O⟩:=Ri.1 L;exact c.gno e (NX F) g b n j M N O) (λs hs f=>by
    obtain⟨j,P,_,_⟩:=h.sdL s hs;exact c.gno e (NX F) g b n j s P f)
   rw[v,sg];exact l
end
section
variable{E:Env}{B0:Nat}{X A:Nat->Prop}{w0:World}{nt:Nat}{ops:Array Oper}{st:St}{a0:Act}{ρ0:List Entry}{ps:List PI}{es:List Entry}{own0:List Blk}{K:St->Prop}
variable{listed:Array Bool}{a:Act}{w:World}{μ:Mu}{sd:List Oper}{xs:List Entry}{sr:List (Oper × Nat)}{om:List Blk}
theorem DG{i j:Nat}(hi:i<listed.size):Ld (listed.setIfInBounds i true) j↔j=i\/Ld listed j:=by
 unfold Ld;by_cases e:j=i
 .subst e;simp[hi]
 .simp[e,M6 (Ne.symm e)]
theorem CZ.keep{w w':World}{H H':Nat->Prop}{μ μ':Mu}{tmps:Array Value}{e:Entry}(a:Keeps w w' H H' μ μ')(h:CZ w H μ tmps e):CZ w' H' μ' tmps e:=by
 unfold CZ at h⊢;split at h
 .exact h.keep a
 .exact⟨λb=>(h.1 b).keep a,h.2⟩
theorem PL{d:Option Nat}{v:Value}{t:Nat}(h:d≠some t):(a.put d v).tmps.getD t undef=a.tmps.getD t undef:=by
 cases d with
 |none=>rfl
 |some d=>
  have b:d≠t:=λe=>h (by rw[e]);simp[Act.put,M6 b]
theorem CZ.put{H:Nat->Prop}{e:Entry}{d:Option Nat}{v:Value}(hs:d≠some e.slot)(c:∀g b,e.guard=some (g,b)->d≠some g)(h:CZ w H μ a.tmps e):CZ w H μ (a.put d v).tmps e:=by
 unfold CZ at h⊢;split at h
 .rw[PL hs];exact h
 .rename_i g b f;rw[PL hs,PL (c g b f)];exact h
theorem d7n(hE:EnvOK E)(hC:GI E)(c:Fixed E nt ops st ρ0 ps es own0)(h:Inv1 E B0 X A w0 nt ops st a0 ρ0 ps es own0 K listed a w μ sd xs sr om)(br:listed.size=ops.size){i:Nat}{o:Oper}(ho:ops[i]?=some o)(hk:(kinds (kb E.c2 ops) ops).getD i 0=0)
 (hi:¬Ld listed i) (hr:∀j,FA o j=true->Ld listed j) {U:Act->World->Prop} {Q:Exit->Act->World->Prop}
 (hK:∀a' M G,Inv1 E B0 X A w0 nt ops st a0 ρ0 ps es own0 K (listed.setIfInBounds i true) a' M G sd xs sr om->U a' M):wpOp E.P ops Q i U a w:=by
 have bm:i<listed.size:=Fj;obtain⟨q,y,rfl,rfl⟩:=c.pall i o ho hk;have ev:∃J f N p,Ru ps ρ0 q.i J/\QY E nt ops (NP (NV ops q.o) J) f q.o=some (p,q.out,N)/\p/\(∀(k:Nat) (b:Blk),f[k]?=some b->om[k]?=some b)/\(N=none\/f=q.own/\N=q.al/\om=own0):=by
  rcases h.late with e|hl
  .obtain⟨J,p,h1,V,W⟩:=c.par.step q y;exact⟨J,q.own,q.al,p,h1,V,W,by rw[e];exact(c.par.sub q y).1,.inr ⟨rfl,rfl,e⟩⟩
  .rcases b60 hl q y with⟨s,hs,hw⟩|⟨p,V,W⟩
   .obtain⟨j,hj,_,hL⟩:=h.sdL s hs;exact absurd (h.closed j s q.i hj hL hw) hi
   .exact⟨_,om,none,p,b1s,V,W,λ_ _ h=>h,.inl rfl⟩
 obtain⟨J,f,N,p,Y,hs,hp,bf,db⟩:=ev;have cz:=f3q c h ho Dx Dx hi hr Y;have jw:=(TM hs).1;have m:=(c3n hE hC h.own h.base bf h.glo cz h.size hs hp (λb C=>by
  rcases db with e|⟨rfl,rfl,rfl⟩
  .rw[e]at C;cases C
  .refine⟨h.fresh _ (c.par.low q y) (λn r hL u I=> ?_),(c.par.sub q y).2 b C⟩;have:=c.par.one n r q y u (by rw[C];rfl) I;exact hi (this▸hL)) (K:=U) (Q:=Q) (λv M G u Z dt=>hK _ M G ?_)).2
 .unfold wpOp;rw[ho];simp only;split
  .rename_i hw;rw[J7 hw]at m;exact .inl m
  .rename_i hw;rw[J8 hw]at m;exact m
 .have F:∀t,q.o.dst≠some t->(a.put q.o.dst v).tmps.getD t undef=a.tmps.getD t undef:=λt O=>PL O;refine⟨u.own,h.len,h.fr.trans u.fr,Kz h.base u.fr.size,Ml u.keeps h.glo,by cases q.o.dst<;>exact h.dfr,by cases q.o.dst<;>simp[Act.put,h.size],h.sk,h.late,λs hs=> ?_,λe I=> ?_,h.xsA,λx hx=> ?_,λj o' hj du R=> ?_,h.srP,
   λn r hL=> ?_,λt O hf z=> ?_,λj o' s d hj du ji hL H=> ?_,λk dh R=> ?_,h.env0.keep u.keeps,λj o' l hj hL hw=> ?_,λj x hx=>u.keeps.own _ _ (h.anc j x hx),λj o' hj du hL=> ?_⟩
  .obtain⟨j,hj,du,hL⟩:=h.sdL s hs;exact Cq
  .obtain⟨e1,e2,s,hs,z⟩:=h.xsE e I;obtain⟨j,hj,du,_⟩:=h.sdL s hs;refine⟨e1,(CZ.keep u.keeps e2).put (λH=> ?_) (λg b S=>by rw[e1]at S;cases S),s,hs,z⟩;have:=c.dr.uniq _ _ _ _ _ ho hj H z;rw[this]at hk;omega
  .obtain⟨x1,x2,x3⟩:=h.srU x hx;refine⟨x1,x2,λhL=> ?_⟩;rcases(DG bm).1 hL with e|hL
   .rw[e]at x2;omega
   .exact x3 hL
  .exact h.srA j o' hj du (λhL=>R ((DG bm).2 (.inr hL)))
  .rcases(DG bm).1 hL with e|hL
   .rw[c.uni n r q y e];exact dt
   .have B:=h.ent n r hL;have T:n.i≠q.i:=λe=>hi (e▸hL);obtain⟨ρ',p',_,hs',_⟩:=c.par.step n r;obtain⟨L,sl2⟩:=TM hs';unfold PC at B⊢;split
    .exact Ja
    .rename_i e I;rw[I]at B L;simp only at B;refine(CZ.keep u.keeps B).put (λH=> ?_) (λg b S H=> ?_)
     .have:n.o.dst=some e.slot:=by rw[<-L];rfl
      exact T (c.dr.uniq _ _ _ _ _ (c.pin n r).1 ho this H)
     .obtain⟨j,p2,kw,hj⟩:=sl2 e I g b S;cases rd:ops[j]? with
      |none=>rw[rd]at hj;cases hj
      |some oj=>
       rw[rd]at hj;have qf:=c.dr.uniq _ _ _ _ _ rd ho hj H;have hw:=c.dr.guard _ _ _ _ (c.pin n r).1 kw;exact hi (qf▸h.closed _ _ _ (c.pin n r).1 hL hw)
  .rw[F t (O q y ((DG bm).2 (.inl rfl)))];exact h.tmp t (λn r hL=>O n r ((DG bm).2 (.inr hL))) hf z
  .have T:j≠q.i:=λe=>by rw[e]at du;omega
   have qg:Ld listed j:=by
    rcases(DG bm).1 hL with e|hL
    .exact absurd e T
    .exact hL
   rw[F d (λfg=>T (c.dr.uniq _ _ _ _ _ hj ho (Pb ji) fg))];exact h.frd j o' s d hj du ji qg H
  .rw[Z k (λC=> ?_)]
   .exact h.fresh k dh (λn r hL=>R n r ((DG bm).2 (.inr hL)))
   .rcases db with e|⟨rfl,rfl,_⟩
    .rw[e]at C;cases C
    .exact λe=>R q y ((DG bm).2 (.inl rfl)) C e.symm
  .rcases(DG bm).1 hL with e|hL
   .subst e;rw[ho]at hj;cases hj;exact(DG bm).2 (.inr (hr l hw))
   .exact Ct
  .rcases(DG bm).1 hL with e|hL
   .subst e;omega
   .exact h.no2 j o' hj du hL
theorem d06(hC:GI E)(z:Fixed E nt ops st ρ0 ps es own0)(h:Inv1 E B0 X A w0 nt ops st a0 ρ0 ps es own0 K listed a w μ sd xs sr om)(br:listed.size=ops.size){i:Nat}{o:Oper}(ho:ops[i]?=some o)(J:(kinds (kb E.c2 ops) ops).getD i 0=1)
 (hi:¬Ld listed i) (hr:∀j,FA o j=true->Ld listed j) {Kc:Act->World->Prop} {Q:Exit->Act->World->Prop}
 (hK:∀a' m c sd' xs' sr' om',Inv1 E B0 X A w0 nt ops st a0 ρ0 ps es own0 K (listed.setIfInBounds i true) a' m c sd' xs' sr' om'->Kc a' m):wpOp E.P ops Q i Kc a w:=by
 have bm:i<listed.size:=Fj;obtain⟨L,cq⟩:=z.dr.store i o ho J;have cu:=h.srA i o ho J hi;have G:=h.sk;have M:=h.srP;have Z:=h.srU;have w6:=h.srA;match sr,cu,G,M,Z,w6 with
 |(o',i')::r,cu,G,M,Z,w6=>
  rw[Kn]at M;have re:(o,i)=(o',i'):=by
   rcases Ji.1 cu with e|hm
   .exact e
   .exfalso;have b6:=M.1 _ hm;obtain⟨u1,u2,u3⟩:=Z (o',i') Dz;exact u3 (hr i' (cq i' o' u1 b6 u2))
  cases re;simp only[b9v]at G;split at G;rotate_left
  .exact G.elim
  rename_i p F out B;rw[fO_eq,Ux]at G;obtain⟨hp,I,G⟩:=G;replace hp:=hp.out;have cz:=f3q z h ho Dx Dx hi hr (b1s (ps:=ps) (ρ0:=ρ0) (i:=i));have next:∀(m:World) (c:Mu) (v:Value),Own B0 X A m c F->Fr B0 X w m->Keeps w m (held A μ) (held A c) μ c->(∀k,st.own.length<=k->(∀q∈ps,Ld listed q.i->q.al.isSome=true->q.own.length≠k)->c k=none)->(∀k x,E.an k=some x->c k=some x)->
   F.length=om.length->(out=none/\o.dst=none\/∃d s,o.dst=some d/\out=some ⟨d,none,s⟩/\JL nt o.dst=true/\D m (held A c) c s v)->
   Inv1 E B0 X A w0 nt ops st a0 ρ0 ps es own0 K (listed.setIfInBounds i true) (a.put o.dst v) m c (o::sd) (QE out xs) r F:=by
   intro m c v n1 n2 n3 n4 n5 n6 n7;have jd:∀e,e∈xs->e∈QE out xs:=λe u=>by
    unfold QE;split
    .exact Ju _ u
    .exact u
   have R:∀{e:Entry},e∈xs->o.dst≠some e.slot:=λ{e} u f=>by obtain⟨_,_,s,hs,C⟩:=h.xsE e u;obtain⟨j,hj,_,hL⟩:=h.sdL s hs;exact hi (z.dr.uniq _ _ _ _ _ ho hj f C▸hL)
   refine⟨n1,n6.trans h.len,h.fr.trans n2,Kz h.base n2.size,Ml n3 h.glo,by cases o.dst<;>exact h.dfr,by cases o.dst<;>simp[Act.put,h.size],G,.inr I,λs hs=> ?_,λe u=> ?_,λs hs d f=> ?_,λx hx=> ?_,λj o' hj du N=> ?_,M.2,
    λH O hL=> ?_,λt ht hf C=> ?_,λj o' s d hj du ji hL f=> ?_,λk dh N=>n4 k dh (λq S hL=>N q S ((DG bm).2 (.inr hL))),h.env0.keep n3,λj o' l hj hL hw=> ?_,n5,λj o' hj du hL=> ?_⟩
   .rcases Ji.1 hs with rfl|hs
    .exact⟨i,ho,J,(DG bm).2 (.inl rfl)⟩
    .obtain⟨j,hj,du,hL⟩:=h.sdL s hs;exact Cq
   .have y:e∈xs->e.guard=none/\CZ m (held A c) c (a.put o.dst v).tmps e/\∃s∈o::sd,s.dst=some e.slot:=λu=>by
     obtain⟨e1,e2,s,hs,C⟩:=h.xsE e u;exact⟨e1,(CZ.keep n3 e2).put (R u) (λg b L=>by rw[e1]at L;cases L),s,Ju _ hs,C⟩
    rcases n7 with⟨rfl,_⟩|⟨d,s,f,rfl,hdo,hv⟩
    .exact y u
    .rcases Ji.1 u with rfl|u
     .refine⟨rfl,?_,o,Nb,f⟩;have b6:d<a.tmps.size:=by rw[h.size];simpa[JL,f]using hdo
      rw[f];unfold CZ Act.put;simp only;rw[NA b6,J7 rfl];exact hv
     .exact y u
   .rcases Ji.1 hs with rfl|hs
    .rcases n7 with⟨_,h0⟩|⟨d',s',fg,rfl,_,_⟩
     .rw[h0]at f;cases f
     .rw[fg]at f;cases f;exact⟨_,Nb,rfl⟩
    .obtain⟨e,u,rz⟩:=h.xsA s hs d f;exact⟨e,jd e u,rz⟩
   .obtain⟨u1,u2,u3⟩:=Z x Eh;refine⟨u1,u2,λhL=> ?_⟩;rcases(DG bm).1 hL with e|hL
    .have:=M.1 x hx;simp only at this;omega
    .exact u3 hL
   .have:=w6 j o' hj du (λhL=>N ((DG bm).2 (.inr hL)));rcases Ji.1 this with e|hm
    .cases e;exact absurd ((DG bm).2 (.inl rfl)) N
    .exact hm
   .rcases(DG bm).1 hL with e|hL
    .have:=(z.pin H O).2;rw[e]at this;omega
    .have b9:H.i≠i:=λe=>hi (e▸hL);have y:=h.ent H O hL;obtain⟨ρ',p',_,hs',_⟩:=z.par.step H O;obtain⟨U,sl2⟩:=TM hs';unfold PC at y⊢;split
     .exact Ja
     .rename_i e u;rw[u]at y U;simp only at y;refine(CZ.keep n3 y).put (λf=> ?_) (λg b L f=> ?_)
      .have:H.o.dst=some e.slot:=by rw[<-U];rfl
       exact b9 (z.dr.uniq _ _ _ _ _ (z.pin H O).1 ho this f)
      .obtain⟨j,p2,kw,hj⟩:=sl2 e u g b L;cases rd:ops[j]? with
       |none=>rw[rd]at hj;cases hj
       |some oj=>
        rw[rd]at hj;have qf:=z.dr.uniq _ _ _ _ _ rd ho hj f;have hw:=z.dr.guard _ _ _ _ (z.pin H O).1 kw;exact hi (qf▸h.closed _ _ _ (z.pin H O).1 hL hw)
   .rw[PL (C o Nb)];exact h.tmp t (λq S hL=>ht q S ((DG bm).2 (.inr hL))) hf (λs hs=>C s (Ju _ hs))
   .have b9:j≠i:=λe=>by rw[e]at du;omega
    have qg:Ld listed j:=by
     rcases(DG bm).1 hL with e|hL
     .exact absurd e b9
     .exact hL
    rw[PL (λfg=>b9 (z.dr.uniq _ _ _ _ _ hj ho (Pb ji) fg))];exact h.frd j o' s d hj du ji qg f
   .rcases(DG bm).1 hL with e|hL
    .subst e;rw[ho]at hj;cases hj;exact(DG bm).2 (.inr (hr l hw))
    .exact Ct
   .rcases(DG bm).1 hL with e|hL
    .subst e;omega
    .exact h.no2 j o' hj du hL
  unfold wpOp;rw[ho];simp only;rw[J7 (by simp[Region.wanted,L])];refine .inl ?_;unfold c76 at B;split at B
  .rename_i T px xx d9;simp only[Jd]at B;obtain⟨sp,vp,sx,pt,rr,B,f⟩:=B;split at f;rotate_left
   .cases f
   rename_i sf;simp only[Ii]at f;obtain⟨rfl,rfl,rfl⟩:=f;have V:=Qn (E:=E) (a:=a) (g:=none) (λn s N=>(h.glo n s N).2) cz (λq b e=>E5);obtain⟨m,bt,W⟩:=b5q h.own (V _ _ vp) (V _ _ pt) B hp;have hx:(execOp a.eval o).run E.P w=.ok .skip m:=by simp[execOp,d9,bt]
   unfold Oper.wp;rw[hx];exact hK _ m μ _ _ _ _ (next m μ undef W.own W.fr W.keeps h.fresh h.anc (b73 B) (.inl ⟨rfl,sf⟩))
  .split at B;rotate_left
   .cases B
   rename_i p1 s1 own1 Y;split at B;rotate_left
   .cases B
   rename_i dz;simp only[K6]at dz;obtain⟨⟨c1,c2⟩,c3⟩:=dz;replace c1:=Nat.eq_of_beq_eq_true c1;replace c2:=Nat.eq_of_beq_eq_true c2;simp only[Ii]at B;obtain⟨rfl,rfl,rfl⟩:=B;have hS:SD E B0 X A w0 nt ⟨NP (NV ops o) (UK ps i++ρ0),om⟩ a w μ:=⟨h.own,h.fr,h.base,h.glo,h.dfr,h.size,cz,λk J=>by simp only at J;refine h.fresh k Dx (λq S _ W e=> ?_);have:=z.par.top q S W;rw[<-h.len]at this;omega,h.anc⟩
   refine c25 hC hS (by rw[<-b8d];exact Y) hp (λv m c q1 q2 q3 q4 q5 q6=>hK _ m c _ _ _ _ (next m c v q1 q2 ⟨q3.size,q3.block,q3.less,λk x hx=>q3.own k x Dz hx⟩ (λk J _=>q4 k Dx) q5 Dx ?_));cases f:o.dst with
   |none=>exact .inl ⟨rfl,rfl⟩
   |some d=>exact .inr ⟨d,s1,rfl,rfl,by rw[<-f];exact c3,q6⟩
theorem f4d{d:Nat}{v:Value}(h:d<a.tmps.size):(a.put (some d) v).tmps.getD d undef=v:=by simp[Act.put,h]
theorem d85{d:Nat}{v:Value}(h:d<a.tmps.size->a.tmps.getD d undef=v):a.put (some d) v=a:=by
 have:a.tmps.setIfInBounds d v=a.tmps:=by
  by_cases b:d<a.tmps.size
  .have e:=h b;have c:a.tmps[d]=v:=by
    rw[<-e];simp[Array.getD,b]
   rw[<-c];simp[Array.setIfInBounds,b]
  .simp[Array.setIfInBounds,b]
 unfold Act.put;simp only;rw[this]
theorem c57{P:Program}{o:Oper}{s d:Nat}(b:QA o=some (s,d)){c:Act->World->Prop}{Q:Exit->Act->World->Prop}:o.wp P a w c Q↔c (a.put (some d) (a.tmps.getD s undef)) w:=by
 obtain⟨e,_⟩:=c17 b;have f:=Pb b;have hx:(execOp a.eval o).run P w=.ok (.value (a.tmps.getD s undef)) w:=by simp[execOp,e,Act.eval]
 unfold Oper.wp;rw[hx,Oper.upon_value,f]
theorem d49(c:Fixed E nt ops st ρ0 ps es own0)(h:Inv1 E B0 X A w0 nt ops st a0 ρ0 ps es own0 K listed a w μ sd xs sr om)(br:listed.size=ops.size){i:Nat}{o:Oper}(ho:ops[i]?=some o)(I:(kinds (kb E.c2 ops) ops).getD i 0=3)
 (hi:¬Ld listed i) (hr:∀j,FA o j=true->Ld listed j) {S:Act->World->Prop} {Q:Exit->Act->World->Prop}
 (hK:∀T U J,Inv1 E B0 X A w0 nt ops st a0 ρ0 ps es own0 K (listed.setIfInBounds i true) T U J sd xs sr om->S T U):wpOp E.P ops Q i S a w:=by
 have bm:i<listed.size:=Fj;obtain⟨s,d,hf,L⟩:=c.dr.free i o ho I;have z:=Pb hf;have T7:d∈LX (kb E.c2 ops) ops:=Ri.2 ⟨i,o,ho,I,z⟩;have r:∀{v:Value} t,t≠d->(a.put (some d) v).tmps.getD t undef=a.tmps.getD t undef:=λt M=>PL (λe=>M (Kf e).symm);have Z4:a.tmps.getD s undef=a0.tmps.getD s undef:=h.tmp s (λq f _=>(L q.i q.o (c.pin q f).1).1) (λhD=>by
  obtain⟨j,o',h1,_,h3⟩:=Ri.1 hD;exact(L j o' h1).1 h3) (λy hs'=>by
  obtain⟨j,hj,_,_⟩:=h.sdL y hs';exact(L j y hj).1)
 unfold wpOp;rw[ho];simp only;rw[J7 H5];refine .inl ((c57 hf).2 (hK _ w μ ?_));refine⟨h.own,h.len,h.fr,h.base,h.glo,h.dfr,by simp[Act.put,h.size],h.sk,h.late,λx hx=> ?_,λe C=> ?_,h.xsA,λx hx=> ?_,λj o' hj du N=> ?_,h.srP,
  λq f hL=> ?_,λt M V m=> ?_,λj o' y W hj du F hL u=> ?_,λk dh N=>h.fresh k dh (λq f hL=>N q f ((DG bm).2 (.inr hL))),h.env0,λj o' l hj hL hw=> ?_,h.anc,λj o' hj du hL=> ?_⟩
 .obtain⟨j,hj,du,hL⟩:=h.sdL x hx;exact Cq
 .obtain⟨Y,e2,y,hs',m⟩:=h.xsE e C;obtain⟨j,hj,du,_⟩:=h.sdL y hs';refine⟨Y,e2.put (λu=> ?_) (λg b G=>by rw[Y]at G;cases G),y,hs',m⟩;have:=c.dr.uniq _ _ _ _ _ ho hj (z.trans u) m;rw[this]at I;omega
 .obtain⟨u1,Z,u3⟩:=h.srU x hx;refine⟨u1,Z,λhL=> ?_⟩;rcases(DG bm).1 hL with e|hL
  .rw[e]at Z;omega
  .exact u3 hL
 .exact h.srA j o' hj du (λhL=>N ((DG bm).2 (.inr hL)))
 .have P8:=(c.pin q f).2;have b9:q.i≠i:=λe=>by rw[e]at P8;omega
  have H:Ld listed q.i:=by
   rcases(DG bm).1 hL with e|hL
   .exact absurd e b9
   .exact hL
  have n:=h.ent q f H;obtain⟨ρ',p',_,hs',_⟩:=c.par.step q f;obtain⟨B,O⟩:=TM hs';unfold PC at n⊢;split
  .exact Ja
  .rename_i e C;rw[C]at n B;simp only at n;refine n.put (λu=> ?_) (λg b G u=> ?_)
   .have:q.o.dst=some e.slot:=by rw[<-B];rfl
    exact b9 (c.dr.uniq _ _ _ _ _ (c.pin q f).1 ho this (z.trans u))
   .obtain⟨j,p2,kw,hj⟩:=O e C g b G;cases rd:ops[j]? with
    |none=>rw[rd]at hj;cases hj
    |some oj=>
     rw[rd]at hj;have qf:=c.dr.uniq _ _ _ _ _ rd ho hj (z.trans u);have hw:=c.dr.guard _ _ _ _ (c.pin q f).1 kw;exact hi (qf▸h.closed _ _ _ (c.pin q f).1 H hw)
 .rw[r t (λe=>V (e▸T7))];exact h.tmp t (λq f hL=>M q f ((DG bm).2 (.inr hL))) V m
 .by_cases e:j=i
  .subst e;rw[ho]at hj;cases hj;rw[hf]at F;cases F;rw[f4d (by rw[h.size];exact u)];exact Z4
  .have H:Ld listed j:=by
    rcases(DG bm).1 hL with R|hL
    .exact absurd R e
    .exact hL
   rw[r W (λR=>e (c.dr.uniq _ _ _ _ _ hj ho (Pb F) (by rw[z,R])))];exact h.frd j o' y W hj du F H u
 .rcases(DG bm).1 hL with e|hL
  .subst e;rw[ho]at hj;cases hj;exact(DG bm).2 (.inr (hr l hw))
  .exact Ct
 .rcases(DG bm).1 hL with e|hL
  .subst e;omega
  .exact h.no2 j o' hj du hL
theorem settle(d:Fixed E nt ops st ρ0 ps es own0)(h:Inv1 E B0 X A w0 nt ops st a0 ρ0 ps es own0 K listed a w μ sd xs sr om)(C:∀(i:Nat) (o:Oper),ops[i]?=some o->(kinds (kb E.c2 ops) ops).getD i 0≠2->(kinds (kb E.c2 ops) ops).getD i 0≠3->Ld listed i):
 SD E B0 X A w0 nt ⟨xs++(es++ρ0),om⟩ a w μ/\d7g E (kb E.c2 ops) nt ops K ⟨xs++(es++ρ0),om⟩:=by
 have H:∀q∈ps,Ld listed q.i:=λq c=>C q.i q.o (d.pin q c).1 (by rw[(d.pin q c).2];omega) (by rw[(d.pin q c).2];omega);refine⟨⟨h.own,h.fr,h.base,h.glo,h.dfr,h.size,λt e f=> ?_,λk v=> ?_,h.anc⟩,?_⟩
 .have F:=MJ f;simp only at f;rw[b4v]at f;split at f
  .rename_i x hx;cases f;exact(h.xsE _ (NX hx)).2.1
  rename_i I;rw[b4v]at f;split at f
  .rename_i x hx;cases f;obtain⟨q,c,J⟩:=(d.es _).1 (NX hx);have:=h.ent q c (H q c);rw[J]at this;exact this
  .rename_i L;have l:=h.env0 t e f;have M:∀q∈ps,q.o.dst≠some t:=by
    intro q c m;obtain⟨ρq,p,_,hs,_⟩:=d.par.step q c;have G:=(TM hs).1;rw[m,Jc]at G;obtain⟨y,z,hs'⟩:=G;exact b2t.1 L y ((d.es _).2 ⟨q,c,z⟩) hs'
   have u:=h.tmp t (λq c _=>M q c) (by rw[<-F];exact d.fno e (NX f)) (λs hs m=>by obtain⟨y,N,hs'⟩:=h.xsA s hs t m;exact b2t.1 I y N hs')
   unfold CZ at l⊢;rw[F]at l⊢;split
   .rename_i n;rw[n]at l;simp only at l;rw[u];exact l
   .rename_i g b n;rw[n]at l;simp only at l;have O:=h.tmp g (λq c _ m=>d.gno e (NX f) g b n q.i q.o (d.pin q c).1 m) (λP=>by
     obtain⟨j,Q,R,h2,S⟩:=Ri.1 P;exact d.gno e (NX f) g b n j Q R S) (λs hs m=>by
     obtain⟨j,T,_,_⟩:=h.sdL s hs;exact d.gno e (NX f) g b n j s T m)
    rw[u,O];exact l
 .simp only at v;rw[h.len]at v;refine h.fresh k (Kz d.top v) (λq c _ U e=> ?_);have:=d.par.top q c U;omega
 .have B:sr=[]:=by
   match sr,h.srU with
   | [],_=>rfl
   |x::r,V=>
    obtain⟨W,u2,Y⟩:=V x Dz;exact absurd (C _ _ W Dx Dx) Y
  have:=h.sk;rw[B]at this;exact this
end
theorem b0m(ks:List Nat)(o:Oper):Ra ks o<=2:=by
 unfold Ra;split
 .exact C0
 .split<;>decide
theorem c1b(ks:List Nat)(o:Oper):b2m ks o<=2:=by
 unfold b2m;split
 .exact C0
 .split
  .exact C0
  .exact b0m _ _
theorem c1r(ks:List Nat)(o:Oper):b2v ks o<=2:=by
 unfold b2v;split
 .exact C0
 .split
  .decide
  .split
   .split<;>decide
   .exact b0m _ _
theorem c2k(ops:Array Oper)(ks:List Nat)(o:Oper):b34 ops ks o<=2:=by
 unfold b34;split
 .exact C0
 .split
  .decide
  .exact b0m _ _
theorem c2y(b:Nat)(ops:Array Oper)(i:Nat):(d5y b ops).getD i 0<=2:=by
 have:∀(l:List Oper) (a:List Nat),(∀x∈a,x<=2)->∀x∈l.foldl (λa o=>a++[match b with|0=>Ra a o|1=>b2m a o|2=>b2v a o|_=>b34 ops a o]) a,x<=2:=by
  intro l;induction l with
  |nil=>intro a h;exact h
  |cons o l c=>
   intro a h;refine c _ (λx hx=> ?_);rcases Jt.1 hx with hx|hx
   .exact h x hx
   .rw[Jw.1 hx];split
    .exact b0m _ _
    .exact c1b _ _
    .exact c1r _ _
    .exact c2k _ _ _
 have h:=this ops.toList [] Dz;rw[J5];cases e:(d5y b ops)[i]? with
 |none=>simp
 |some x=>exact h x (Jb e)
theorem f1h(b:Nat)(ops:Array Oper)(i:Nat):(kinds b ops).getD i 0<=3:=by
 unfold kinds f37;split
 .have:=c2y b ops i;omega
 .simp only;rw[J5,Jz];cases ops.toList.zipIdx[i]? with
  |none=>simp
  |some x=>
   simp only[Iw];split
   .exact C0
   .have:=c2y b ops x.2;omega
theorem b7x{ops:Array Oper}{listed:Array Bool}(br:listed.size=ops.size)(d:∀(i:Nat) (o:Oper) (j:Nat),ops[i]?=some o->FA o j=true->j<i){i:Nat}(h:i∈Region.ready .any ops listed):∃o,ops[i]?=some o/\¬Ld listed i/\∀j,FA o j=true->Ld listed j:=by
 unfold Region.ready at h;simp only[Ku,Ka,J3]at h;obtain⟨h1,f,a⟩:=h;obtain⟨o,b⟩:∃o,ops[i]?=some o:=⟨ops[i],Ep⟩
 refine⟨o,b,by unfold Ld;rw[f];simp,λj c=> ?_⟩;have b6:=d i o j b c;rw[b]at a;simp only[Iw]at a;rw[Array.all_eq_true_iff_forall_mem]at a;simp only[FA,Jp,Iy]at c;obtain⟨e,g,k,rfl⟩:=c;have:=a e (by simpa using g);rw[k]at this;simp only[Bool.not_true,Ng]at this;unfold Ld;rw[<-this];have l:e.on<listed.size:=Dx;simp[Array.getD,l]
theorem d66{ops:Array Oper}{listed:Array Bool}(d:∀(i:Nat) (o:Oper) (j:Nat),ops[i]?=some o->FA o j=true->j<i)(br:listed.size=ops.size)(h:Region.ready .any ops listed=[]):∀(i:Nat) (o:Oper),ops[i]?=some o->Ld listed i:=by
 intro i;induction i using Nat.strongRecOn with
 |_ i f=>
  intro o a;have g:i<ops.size:=(Kk.1 a).1;by_cases b:Ld listed i
  .exact b
  exfalso;have:i∈Region.ready .any ops listed:=by
   unfold Region.ready;simp only[Ku,Ka,J3];refine⟨g,by unfold Ld at b;simpa using b,?_⟩;rw[a];simp only[Iw];rw[Array.all_eq_true_iff_forall_mem];intro e k;cases hb:Region.binds .any e with
   |false=>rfl
   |true=>
    have l:FA o e.on=true:=by simp only[FA,Jp,Iy];exact⟨e,by simpa using k,hb,rfl⟩
    have m:=d i o _ a l;obtain⟨c,n⟩:∃c,ops[e.on]?=some c:=⟨ops[e.on]'Dx,by simp[show e.on<ops.size from Dx]⟩
    have:=f _ m c n;unfold Ld at this;have q:e.on<listed.size:=Dx;simp[Array.getD,q]at this⊢;exact this
  rw[h]at this;simp at this
section
variable{E:Env}{B0:Nat}{X A:Nat->Prop}{w0:World}{nt:Nat}{ops:Array Oper}{st:St}{a0:Act}{ρ0:List Entry}{ps:List PI}{es:List Entry}{own0:List Blk}{K:St->Prop}
theorem b6g{p:Nat->Bool}{t:Nat}{e:Entry}:∀{ρ:List Entry},CK t (ρ.filter λe=>p e.slot)=some e->CK t ρ=some e
 | [],h=>by simp[CK]at h
 |x::ρ,h=>by
  simp only[List.filter_cons]at h;split at h
  .simp only[CK]at h⊢;split
   .rename_i hx;rw[J7 hx]at h;exact h
   .rename_i hx;rw[J8 hx]at h;exact b6g h
  .rename_i a;have c:=b6g h;simp only[CK];split
   .rename_i hx;exfalso;have:∀{l:List Entry},CK t (l.filter λe=>p e.slot)=some e->p t=true:=by
     intro l b;have hs:=MJ b;have:=(Ku.1 (NX b)).2;rw[hs]at this;exact this
    rw[hx]at a;exact a (this h)
   .exact c
theorem c13{w:World}{H:Nat->Prop}{μ:Mu}{tmps:Array Value}{a:List Nat}{ρ:List Entry}(h:EQ w H μ tmps ρ):EQ w H μ tmps (ρ.map (Oc a)):=by
 intro t e b;rw[UJ (b14 a),Jc]at b;obtain⟨d,f,rfl⟩:=b;have c:=h t d f;unfold Oc;split
 .split
  .exact .any
  .exact c
 .exact c
theorem d7a{w:World}{H:Nat->Prop}{μ:Mu}{tmps:Array Value}{a:List Nat}{ρ:List Entry}(h:EQ w H μ tmps ρ):EQ w H μ tmps (ρ.filter λe=> !a.contains e.slot):=
 λt e b=>h t e (b6g (p:=λt=> !a.contains t) b)
theorem b3r{c:List Nat}{e:Entry}{g:Nat}{b:Bool}(a:(Oc c e).guard=some (g,b)):g∉c:=by
 unfold Oc at a;split at a
 .rename_i g' b' d;split at a
  .cases a
  .rename_i f;rw[d]at a;cases a;exact λh=>f (by simpa using h)
 .rename_i i;rw[i]at a;cases a
def NoE(a:List Nat)(ρ:List Entry):Prop:=∀e∈ρ,e.slot∉a/\∀g b,e.guard=some (g,b)->g∉a
theorem d7e{a:List Nat}{ρ:List Entry}:NoE a (Qj a ρ):=by intro e c;obtain⟨e0,d,rfl⟩:=Js.1 c;refine⟨?_,λg b f=>b3r f⟩;rw[b14];simpa using(Ku.1 d).2
theorem g18{w:World}{H:Nat->Prop}{μ:Mu}{tmps:Array Value}{a:List Nat}{ρ:List Entry}(h:EQ w H μ tmps ρ):EQ w H μ tmps (Qj a ρ):=c13 (d7a h)
theorem c9a(ρ:List Entry):Qj [] ρ=ρ:=by
 have:∀ρ:List Entry,ρ.map (Oc [])=ρ:=by
  intro ρ;induction ρ with
  |nil=>rfl
  |cons e ρ a=>
   have:Oc [] e=e:=by
    unfold Oc;split
    .simp
    .rfl
   rw[Kr,this,a]
 unfold Qj;simp only[List.contains_nil,Bool.not_false];rw[List.filter_eq_self.2 (λ_ _=>rfl),this]
theorem SD.drp{a:Act}{w:World}{μ:Mu}{c:List Nat}{b:St}(h:SD E B0 X A w0 nt b a w μ):SD E B0 X A w0 nt ⟨Qj c b.ρ,b.own⟩ a w μ:=
 ⟨h.own,h.fr,h.base,h.glo,h.dfr,h.size,g18 h.env,h.fresh,h.anc⟩
theorem wp_put{P:Program}{o:Oper}{a:Act}{w:World}{K:Act->World->Prop}{Q:Exit->Act->World->Prop}(h:o.wp P a w K Q):o.wp P a w (λd c=>K d c/\∃v,d.tmps=(a.put o.dst v).tmps) Q:=by
 unfold Oper.wp at*;generalize (execOp a.eval o).run P w=r at*;have zx:∀v:Value,∃f,(a.put o.dst v).tmps=(a.put o.dst f).tmps:=λv=>⟨v,rfl⟩
 cases r with
 |ok n c=>
  cases n<;>simp only[Oper.upon]at h⊢ <;>
   first
    |exact⟨h,_,rfl⟩
    |exact⟨h,undef,by cases o.dst<;>rfl⟩
    |exact Calls.mono h (λe w'' b=>by cases e<;>first|exact⟨b,_,rfl⟩|exact b)
    |exact Rows.mono h (λ_ _ b=>⟨b,_,rfl⟩)
 |halt x c=>cases x<;>simp only[Oper.upon]at h⊢ <;>exact h
theorem f3d(q:EnvOK E)(t:GI E){a:Act}{w:World}{j:St->Prop}:∀(l:List Oper) {b:St} {c:Mu} (r:List Oper),SD E B0 X A w0 nt b a w c->(∀o∈l,∃s d,QA o=some (s,d)/\(d<nt->a.tmps.getD d undef=a.tmps.getD s undef))->Oa E nt ops j (l++r) b->
 ∃f i,SD E B0 X A w0 nt f a w i/\Oa E nt ops j r f:=by
 intro l;induction l with
 |nil=>intro b c r h _ e;exact⟨b,c,h,e⟩
 |cons o l u=>
  intro b c r h k e;simp only[Mh,b2c]at e;obtain⟨b,c,h,e⟩:=b1q h e;unfold Rz at e;split at e;rotate_left
  .exact e.elim
  rename_i p f hs;rw[St.forceO_eq]at e;obtain⟨s,d,hf,v⟩:=k o Dz;have:=b0v (K:=λm n=>∃g,SD E B0 X A w0 nt f m n g) (Q:=λ_ _ _=>False) q t h hs e.1.out (λm n g h=>⟨g,h⟩);rw[J7 H5,c57 hf,d85 (λx=>v (by rw[<-h.size];exact x))]at this;obtain⟨i,y⟩:=this;exact u r y (λz B=>k z (by simp[B])) e.2
structure Inv2 (E:Env) (B0:Nat) (X A:Nat->Prop) (w0:World) (nt:Nat) (ops:Array Oper) (K:St->Prop) (listed:Array Bool) (a:Act) (w:World) (μ:Mu) (rest:List ((Oper×Nat)×List (Oper×Nat))) (st':St):Prop where
 sd:SD E B0 X A w0 nt st' a w μ
 sk:RK E (kb E.c2 ops) nt ops (LX (kb E.c2 ops) ops) K rest st'
 no:NoE (LX (kb E.c2 ops) ops) st'.ρ
 low:∀(i:Nat) (o:Oper),ops[i]?=some o->(kinds (kb E.c2 ops) ops).getD i 0≠2->(kinds (kb E.c2 ops) ops).getD i 0≠3->Ld listed i
 mem:∀g∈rest,ops[g.1.2]?=some g.1.1/\(kinds (kb E.c2 ops) ops).getD g.1.2 0=2/\¬Ld listed g.1.2
 grp:∀g∈rest,∀f∈g.2,ops[f.2]?=some f.1/\(kinds (kb E.c2 ops) ops).getD f.2 0=3/\Reach ops g.1.2 f.2
 all:∀(i:Nat) (o:Oper),ops[i]?=some o->(kinds (kb E.c2 ops) ops).getD i 0=2->¬Ld listed i->∃fs,((o,i),fs)∈rest
 pair:rest.Pairwise (λx y=>x.1.2<y.1.2)
 cl:∀(i:Nat) (o:Oper) (j:Nat),ops[i]?=some o->Ld listed i->FA o j=true->Ld listed j
 fr:∀(i:Nat) (o:Oper) (s d:Nat),ops[i]?=some o->(kinds (kb E.c2 ops) ops).getD i 0=3->QA o=some (s,d)->Ld listed i->d<nt->a.tmps.getD d undef=a.tmps.getD s undef
theorem d53(hE:EnvOK E)(hC:GI E)(S:Draws (kb E.c2 ops) ops){listed:Array Bool}{a:Act}{w:World}{μ:Mu}{z:List ((Oper×Nat)×List (Oper×Nat))}{W:St}(h:Inv2 E B0 X A w0 nt ops K listed a w μ z W)(br:listed.size=ops.size){i:Nat}{o:Oper}(ho:ops[i]?=some o)(f9:(kinds (kb E.c2 ops) ops).getD i 0=2)
 (hi:¬Ld listed i) (Y:∀j,FA o j=true->Ld listed j) {Z:Act->World->Prop} {Q:Exit->Act->World->Prop}
 (hK:∀n u b B J,Inv2 E B0 X A w0 nt ops K (listed.setIfInBounds i true) n u b B J->Z n u):wpOp E.P ops Q i Z a w:=by
 have C:i<listed.size:=Fj;obtain⟨fs,cu⟩:=h.all i o ho f9 hi;have c:=h.sk;have T:=h.mem;have F:=h.pair;have ha:=h.all;have U:=h.grp;match z,cu,c,T,F,ha,U with
 |((q,V),y)::r,cu,c,T,F,ha,U=>
  rw[Kn]at F;have re:((o,i),fs)=((q,V),y):=by
   rcases Ji.1 cu with e|L
   .exact e
   .exfalso;have b6:V<i:=F.1 _ L;obtain⟨G,H,M⟩:=T ((q,V),y) Dz;simp only at H;exact M (b0c h.cl (S.last i o V q ho f9 G Dx Dx Dx) ho Y)
  cases re;simp only[RK]at c;obtain⟨st2,μ2,h2,c⟩:=f3d hE hC (fs.map (·.1)) [o] h.sd (λo1 ve=>by obtain⟨f,hf,rfl⟩:=Js.1 ve;obtain⟨G,H,M⟩:=U ((o,i),fs) Dz f hf;obtain⟨s,d,f1,_⟩:=S.free _ _ G H;exact⟨s,d,f1,h.fr _ _ _ _ G H f1 (b0c h.cl M ho Y)⟩) c
  simp only[b2c]at c;obtain⟨st2,μ2,h2,c⟩:=b1q h2 c;unfold Rz at c;split at c;rotate_left
  .exact c.elim
  rename_i p N hs;simp only[St.force_eq,St.forceO_eq]at c;have l:=b0v (K:=λn u=>∃b,SD E B0 X A w0 nt N n u b) (Q:=Q) hE hC h2 hs c.1.out (λn u b hs'=>⟨b,hs'⟩);have O:∀n u,((∃b,SD E B0 X A w0 nt N n u b)/\∃v,n.tmps=(a.put o.dst v).tmps)->Z n u:=by
   rintro n u ⟨⟨b,hs'⟩,v,hv⟩;refine hK n u b r _ ⟨hs'.drp,c.2,d7e,λj q t hk ti=>(DG C).2 (.inr (h.low j q t hk ti)),λx hx=> ?_,λg w7=>U g (by simp[w7]),λj q t R hn=> ?_,F.2,λj q k t m I=> ?_,λj q s d t R ji m b6=> ?_⟩
   .obtain⟨G,H,M⟩:=T x Eh;refine⟨G,H,λm=> ?_⟩;rcases(DG C).1 m with e|m
    .have:=F.1 x hx;simp only at this;omega
    .exact M m
   .obtain⟨y,L⟩:=ha j q t R (λm=>hn ((DG C).2 (.inr m)));rcases Ji.1 L with e|L
    .cases e;exact absurd ((DG C).2 (.inl rfl)) hn
    .exact⟨y,L⟩
   .refine(DG C).2 (.inr ?_);rcases(DG C).1 m with e|m
    .subst e;rw[ho]at t;cases t;exact Y _ I
    .exact h.cl _ _ _ t m I
   .have b9:j≠i:=λe=>by rw[e]at R;omega
    have qg:Ld listed j:=by
     rcases(DG C).1 m with e|m
     .exact absurd e b9
     .exact m
    obtain⟨s',d',f1,f2⟩:=S.free j q t R;rw[ji]at f1;cases f1;rw[hv,PL (λe=>b9 (S.uniq _ _ _ _ _ t ho (Pb ji) e)),PL (f2 i o ho).1];exact h.fr j q s d t R ji qg b6
  unfold wpOp;rw[ho];simp only;split
  .rename_i I;rw[J7 I]at l;exact .inl (Oper.wp_mono O (wp_put l))
  .rename_i I;rw[J8 I]at l;exact O _ _ ⟨l,_,rfl⟩
theorem d6t(C:Draws (kb E.c2 ops) ops){listed:Array Bool}{a:Act}{w:World}{μ:Mu}{m:List ((Oper×Nat)×List (Oper×Nat))}{u:St}(h:Inv2 E B0 X A w0 nt ops K listed a w μ m u)(br:listed.size=ops.size){i:Nat}{o:Oper}(ho:ops[i]?=some o)(z:(kinds (kb E.c2 ops) ops).getD i 0=3)
 (V:∀j,FA o j=true->Ld listed j) {J:Act->World->Prop} {Q:Exit->Act->World->Prop}
 (W:∀L M F n v,Inv2 E B0 X A w0 nt ops K (listed.setIfInBounds i true) L M F n v->J L M):wpOp E.P ops Q i J a w:=by
 have r:i<listed.size:=Fj;obtain⟨s,d,hf,pb⟩:=C.free i o ho z;have G:=Pb hf;have N:d∈LX (kb E.c2 ops) ops:=Ri.2 ⟨i,o,ho,z,G⟩;unfold wpOp;rw[ho];simp only;rw[J7 H5];refine .inl ((c57 hf).2 (W _ w μ m u ?_));have l:=h.sd;refine⟨⟨l.own,l.fr,l.base,l.glo,l.dfr,by simp[Act.put,l.size],λt e O=> ?_,l.fresh,l.anc⟩,h.sk,h.no,λj q c z Y=>(DG r).2 (.inr (h.low j q c z Y)),λx hx=> ?_,h.grp,λj q c B Z=>h.all j q c B (λf=>Z ((DG r).2 (.inr f))),h.pair,λj q k c f R=> ?_,λj q S d' c B y f T=> ?_⟩
 .obtain⟨n1,n2⟩:=h.no e (NX O);exact(l.env t e O).put (λH=>n1 (by rw[<-Kf H];exact N)) (λg b hg H=>n2 g b hg (by rw[<-Kf H];exact N))
 .obtain⟨u1,U,u3⟩:=h.mem x hx;refine⟨u1,U,λf=> ?_⟩;rcases(DG r).1 f with e|f
  .rw[e]at U;omega
  .exact u3 f
 .refine(DG r).2 (.inr ?_);rcases(DG r).1 f with e|f
  .subst e;rw[ho]at c;cases c;exact V _ R
  .exact h.cl _ _ _ c f R
 .obtain⟨s1,d1,f1,f2⟩:=C.free j q c B;rw[y]at f1;cases f1;have P7:S≠d:=λe=>(f2 i o ho).1 (by rw[G,e]);rw[PL (a:=a) (λe=>P7 (Kf e).symm)];by_cases e:j=i
  .subst e;rw[ho]at c;cases c;rw[hf]at y;cases y;rw[f4d (by rw[l.size];exact T)]
  .have qg:Ld listed j:=by
    rcases(DG r).1 f with I|f
    .exact absurd I e
    .exact f
   rw[PL (a:=a) (λI=>e (C.uniq _ _ _ _ _ c ho (Pb y) (by rw[G];exact I)))];exact h.fr j q S d' c B y qg T
def g0b(E:Env)(B0:Nat)(X A:Nat->Prop)(w0:World)(nt:Nat)(ops:Array Oper)(st:St)(a0:Act)(ρ0:List Entry)(ps:List PI)(es:List Entry)(own0:List Blk)(K:St->Prop)(listed:Array Bool)(a:Act)(w:World):Prop:=
 (∃c e f g h,Inv1 E B0 X A w0 nt ops st a0 ρ0 ps es own0 K listed a w c e f g h)\/∃c b d,Inv2 E B0 X A w0 nt ops K listed a w c b d
theorem f2i{ops:Array Oper}(c:IU (kb E.c2 ops) ops 3=[]):∀(l:List ((Oper×Nat)×List (Oper×Nat))) (a:St),(∀g∈l,g.2=[])->Oa E nt ops K (l.map (·.1.1)) a->RK E (kb E.c2 ops) nt ops [] K l a:=by
 intro l;induction l with
 |nil=>intro a _ h;simp only[RK,c];exact h
 |cons g l d=>
  intro a b h;simp only[RK,b g Dz,List.map_nil,Nd];simp only[Kr,b2c]at h⊢;refine d1y (λst=>d8i (λst e=> ?_) st) h;simp only[St.force_eq,c9a];exact d _ (λf i=>b f (by simp[i])) e
theorem d0f(j:Draws (kb E.c2 ops) ops){a:St}(h:d7g E (kb E.c2 ops) nt ops K a):RK E (kb E.c2 ops) nt ops (LX (kb E.c2 ops) ops) K (SG (kb E.c2 ops) ops) ⟨Qj (LX (kb E.c2 ops) ops) a.ρ,a.own⟩:=by
 unfold d7g at h;split at h
 .rename_i b;have c:IU (kb E.c2 ops) ops 3=[]:=by
   refine List.eq_nil_iff_forall_not_mem.2 (λx hx=> ?_);obtain⟨e,f⟩:=Oe.1 (show (x.1,x.2)∈IU (kb E.c2 ops) ops 3 from hx);obtain⟨s,d,f1,_⟩:=j.free _ _ e f;have:d∈LX (kb E.c2 ops) ops:=Ri.2 ⟨x.2,x.1,e,f,Pb f1⟩;rw[b]at this;cases this
  rw[b,c9a];refine f2i c _ _ (λg i=> ?_) ?_
  .unfold SG at i;obtain⟨x,_,rfl⟩:=Js.1 i;simp[c]
  .unfold SG;rw[Mq];exact h
 .rename_i d ds b;rw[St.force_eq]at h;rw[b];exact h
theorem f3a(b:Fixed E nt ops st ρ0 ps es own0){listed:Array Bool}{a:Act}{w:World}{μ:Mu}{sd:List Oper}{xs:List Entry}{B:List (Oper×Nat)}{p:List Blk}(h:Inv1 E B0 X A w0 nt ops st a0 ρ0 ps es own0 K listed a w μ sd xs B p)(r:∀(i:Nat) (o:Oper),ops[i]?=some o->(kinds (kb E.c2 ops) ops).getD i 0≠2->(kinds (kb E.c2 ops) ops).getD i 0≠3->Ld listed i):
 Inv2 E B0 X A w0 nt ops K listed a w μ (SG (kb E.c2 ops) ops) ⟨Qj (LX (kb E.c2 ops) ops) (xs++(es++ρ0)),p⟩:=by
 obtain⟨C,F⟩:=settle b h r;refine⟨C.drp,d0f b.dr F,d7e,r,λx hx=> ?_,λx hx f G=> ?_,λi o c e hn=> ?_,?_,h.closed,λi o s d c e t H I=> ?_⟩
 .unfold SG at hx;obtain⟨y,k,rfl⟩:=Js.1 hx;obtain⟨g,l⟩:=Oe.1 (show (y.1,y.2)∈IU (kb E.c2 ops) ops 2 from k);exact⟨g,l,h.no2 _ _ g l⟩
 .unfold SG at hx;obtain⟨y,k,rfl⟩:=Js.1 hx;obtain⟨g,l⟩:=Oe.1 (show (y.1,y.2)∈IU (kb E.c2 ops) ops 2 from k);obtain⟨m,u⟩:=Ku.1 G;obtain⟨v,z⟩:=Oe.1 (show (f.1,f.2)∈IU (kb E.c2 ops) ops 3 from m);refine⟨v,z,?_⟩;obtain⟨s,d,f1,f2⟩:=b.dr.free _ _ v z;rw[Pb f1]at u;exact((f2 _ _ g).2 (by simpa using u)).2
 .exact⟨_,Js.2 ⟨(o,i),Oe.2 ⟨c,e⟩,rfl⟩⟩
 .unfold SG;rw[L2];exact b21 _ _ _
 .obtain⟨n,d',f1,f2⟩:=b.dr.free _ _ c e;rw[t]at f1;cases f1;rw[h.frd i o s d c e t H I];exact(h.tmp s (λq J _=>(f2 q.i q.o (b.pin q J).1).1) (λL=>by
   obtain⟨j,M,g1,_,N⟩:=Ri.1 L;exact(f2 j M g1).1 N) (λn hs'=>by
   obtain⟨j,O,_,_⟩:=h.sdL n hs';exact(f2 j n O).1)).symm
theorem walk(N:EnvOK E)(H:GI E)(n:Fixed E nt ops st ρ0 ps es own0){Q:Exit->Act->World->Prop}(hQ:∀g k l c,SD E B0 X A w0 nt g k l c->K g->Q .normal k l):∀(fuel:Nat) (listed:Array Bool) (U:List Nat) (a:Act) (w:World),
 listed.size=ops.size->(∀(i:Nat) (o:Oper),ops[i]?=some o->¬Ld listed i->i∈U)->U.length<=fuel->g0b E B0 X A w0 nt ops st a0 ρ0 ps es own0 K listed a w->wpAny E.P .any ops Q fuel listed a w:=by
 have C:∀(listed:Array Bool) (a:Act) (w:World),g0b E B0 X A w0 nt ops st a0 ρ0 ps es own0 K listed a w->(∀(i:Nat) (o:Oper),ops[i]?=some o->Ld listed i)->Q .normal a w:=by
  intro listed a w h z;have two:∀{t b g},Inv2 E B0 X A w0 nt ops K listed a w t b g->Q .normal a w:=by
   intro t b g h;have:b=[]:=by
    match b,h.mem with
    | [],_=>rfl
    |x::r,hm=>obtain⟨F,_,u3⟩:=hm x Dz;exact absurd (z _ _ F) u3
   have I:=h.sk;rw[this]at I;simp only[RK]at I;obtain⟨st2,μ2,u,f9⟩:=f3d N H ((IU (kb E.c2 ops) ops 3).map (·.1)) [] h.sd (λo ho=>by obtain⟨f,hf,rfl⟩:=Js.1 ho;obtain⟨F,u2⟩:=Oe.1 (show (f.1,f.2)∈IU (kb E.c2 ops) ops 3 from hf);obtain⟨s,d,f1,_⟩:=n.dr.free _ _ F u2;exact⟨s,d,f1,h.fr _ _ _ _ F u2 f1 (z _ _ F)⟩) (by rw[List.append_nil];exact I)
   exact hQ _ _ _ _ u f9
  rcases h with⟨t,O,R,S,T,h⟩|⟨t,b,g,h⟩
  .exact two (f3a n h (λi o ho _ _=>z i o ho))
  .exact two h
 intro fuel;induction fuel with
 |zero=>
  intro listed U a w br J hl h;have z:∀(i:Nat) (o:Oper),ops[i]?=some o->Ld listed i:=by
   intro i o ho;by_cases L:Ld listed i
   .exact L
   .have:=J i o ho L;rw[Lj.1 (by omega:U.length=0)]at this;simp at this
  refine⟨?_,C listed a w h z⟩;refine List.eq_nil_iff_forall_not_mem.2 (λi V=> ?_);obtain⟨o,ho,y,_⟩:=b7x br n.dr.lt V;exact y (z i o ho)
 |succ fuel ih=>
  intro listed U a w br J hl h;refine⟨λW=>C listed a w h (d66 n.dr.lt br W),λi V=> ?_⟩;obtain⟨o,ho,y,B⟩:=b7x br n.dr.lt V;have Y:=J i o ho y;have bm:i<listed.size:=Fj;have next:∀k l,g0b E B0 X A w0 nt ops st a0 ρ0 ps es own0 K (listed.setIfInBounds i true) k l->wpAny E.P .any ops Q fuel (listed.setIfInBounds i true) k l:=by
   intro k l hs;refine ih _ (U.erase i) k l (by simpa using br) (λj Z hj Zb=> ?_) ?_ hs
   .have b9:j≠i:=λe=>Zb ((DG bm).2 (.inl e));exact(List.mem_erase_of_ne b9).2 (J j Z hj (λL=>Zb ((DG bm).2 (.inr L))))
   .rw[List.length_erase_of_mem Y];omega
  have two:∀{t b g},Inv2 E B0 X A w0 nt ops K listed a w t b g->wpOp E.P ops Q i (wpAny E.P .any ops Q fuel (listed.setIfInBounds i true)) a w:=by
   intro t b g h;by_cases M:(kinds (kb E.c2 ops) ops).getD i 0=3
   .exact d6t n.dr h br ho M B (λk l c m q v=>next k l (.inr ⟨c,m,q,v⟩))
   have u:(kinds (kb E.c2 ops) ops).getD i 0=2:=by
    by_cases u:(kinds (kb E.c2 ops) ops).getD i 0=2
    .exact u
    .exact absurd (h.low i o ho u M) y
   exact d53 N H n.dr h br ho u y B (λk l c m q v=>next k l (.inr ⟨c,m,q,v⟩))
  rcases h with⟨t,O,R,S,T,h⟩|⟨t,b,g,h⟩
  .have I:=f1h (kb E.c2 ops) ops i;by_cases W:(kinds (kb E.c2 ops) ops).getD i 0=0
   .exact d7n N H n h br ho W y B (λk l c v=>next k l (.inl ⟨c,O,R,S,T,v⟩))
   by_cases h1:(kinds (kb E.c2 ops) ops).getD i 0=1
   .exact d06 H n h br ho h1 y B (λk l c sd' xs' sr' om' v=>next k l (.inl ⟨c,sd',xs',sr',om',v⟩))
   by_cases M:(kinds (kb E.c2 ops) ops).getD i 0=3
   .exact d49 n h br ho M y B (λk l c v=>next k l (.inl ⟨c,O,R,S,T,v⟩))
   have u:(kinds (kb E.c2 ops) ops).getD i 0=2:=Dx;refine two (f3a n h (λj Z hj du G=>b0c h.closed (n.dr.last i o j Z ho u hj (λe=>du (e▸u)) (λhc=>du hc.1) G) ho B))
  .exact two h
theorem d0a(L:EnvOK E)(M:GI E)(N:E.P.follows .mixedOrders=true){id:Nat}(O:Tb (kb E.c2 ops) ops=true){a:Act}{w:World}{μ:Mu}(h:SD E B0 X A w0 nt st a w μ)(z:d81 E nt ops K st){R:Exit->Act->World->Prop}
 (Q:∀n F G B,SD E B0 X A w0 nt n F G B->K n->R .normal F G):(Code.region id ops true).wp E.P R a w:=by
 have S:=d8x O;refine wp_region_any N ?_;change wpAny E.P .any ops R ops.size (Array.replicate ops.size false) a w.drew;simp only[d81,d56,f5r]at z;generalize f:(st.ρ.filter λe=> !(LX (kb E.c2 ops) ops).contains e.slot).map (Oc (ops.toList.filterMap (·.dst)))=ρ0 at z;obtain⟨ps,es,own0,H,T,m,U,V,_,r,u⟩:=g16 (base:=st.own) (IU (kb E.c2 ops) ops 0) [] [] st.own z ⟨Dz,Dz,Dz,Dz,λ_ _ h=>h,Dz⟩ Dz Dz Dz (b21 _ _ _) (Jf _) Dz;have I:∀q∈ps,ops[q.i]?=some q.o/\(kinds (kb E.c2 ops) ops).getD q.i 0=0:=by
  intro q C;rcases U q C with h|h
  .simp at h
  .exact Oe.1 h
 have W:Fixed E nt ops st ρ0 ps es own0:=by
  refine⟨S,H,I,λi o c m=>V (o,i) (Oe.2 ⟨c,m⟩),T,λe l=> ?_,λe l g b Y i o c Z=> ?_,r,u⟩
  .rw[<-f,Js]at l;obtain⟨e0,kg,rfl⟩:=l;rw[b14];simpa using(Ku.1 kg).2
  .rw[<-f,Js]at l;obtain⟨e0,_,rfl⟩:=l;exact b3r Y (Na.2 ⟨o,Array.mem_toList_iff.2 (Array.mem_of_getElem? c),Z⟩)
 have v:∀i,i<ops.size->¬Ld (Array.replicate ops.size false) i:=by intro i hi;unfold Ld;simp[hi]
 refine walk (a0:=a) L M W Q ops.size _ (List.range ops.size) a w.drew Dz (λi o c _=>by simpa using(Kk.1 c).1) Dz (.inl ⟨μ,[],[],IU (kb E.c2 ops) ops 1,own0,?_⟩);have lt:∀{i:Nat} {o:Oper},ops[i]?=some o->i<ops.size:=λc=>(Kk.1 c).1;refine⟨(h.own.drew).more H.base,rfl,h.fr.trans Fr.drew,h.base,Ml Keeps.drew h.glo,h.dfr,h.size,m,.inl rfl,Dz,Dz,Dz,λx hx=> ?_,λi o c m _=>Oe.2 ⟨c,m⟩,b21 _ _ _,
  λq C y=>absurd y (v _ (lt (I q C).1)),λt _ _ _=>rfl,λi o s d c _ _ y=>absurd y (v _ (lt c)),λk m _=>h.fresh k m,?_,λi o j c y=>absurd y (v _ (lt c)),h.anc,λi o c _=>v _ (lt c)⟩
 .obtain⟨J,u2⟩:=Oe.1 (show (x.1,x.2)∈IU (kb E.c2 ops) ops 1 from hx);exact⟨J,u2,v _ (lt J)⟩
 .rw[<-f];have l:EQ w.drew (held A μ) μ a.tmps st.ρ:=λt e l=>CZ.keep Keeps.drew (h.env t e l);exact c13 (d7a l)
end
def addE(ρ:List Entry)(t:Nat)(s:SV):List Entry:=⟨t,none,s⟩::ρ
def Po:List (TypeId×Nat)->List (Nat×(Nat->List SV))->List Blk
 |t::a,r::b=>.row t.1 t.2 r.1 r.2 none::Po a b
 |_,_=>[]
theorem b0h:∀(ts:List (TypeId×Nat)) (a:List (Nat×(Nat->List SV))),ts.length=a.length->(Po ts a).length=ts.length
 | [],[],_=>rfl
 |t::ts,r::a,h=>by simp only[Po,Kt,b0h ts a E4]
 | [],_::_,h=>E8
 |_::_,[],h=>E8
theorem b69:∀(ts:List (TypeId×Nat)) (a:List (Nat×(Nat->List SV))) (j:Nat) (b:Blk),(Po ts a)[j]?=some b->∃t r,ts[j]?=some t/\a[j]?=some r/\b=.row t.1 t.2 r.1 r.2 none
 | [],_,j,b,h=>by simp[Po]at h
 |_::_,[],j,b,h=>by simp[Po]at h
 |t::ts,r::a,0,b,h=>by simp[Po]at h;exact⟨t,r,rfl,rfl,h.symm⟩
 |t::ts,r::a,j+1,b,h=>by obtain⟨c,d,h1,e,f⟩:=b69 ts a j b (by simpa[Po]using h);exact⟨c,d,Ev,by simpa using e,f⟩
def d43(E:Env)(t:Nat)(st:St):Option (Prop×St):=match CK t st.ρ with
 |some ⟨_,none,.fp c k i 0⟩=>match st.own[k]? with
  |some (.fam T b n none F)=>match F i with
   |⟨d,a⟩=>if b.length=a.length/\E.ak k=false then
      some (c=true/\i<n,⟨addE st.ρ t (.own st.own.length 0),st.own.set k (.fam T b n (some (i,st.own.length)) F)++ .cells T (d.map (SV.ren0 λj=>some (st.own.length+1+j)))::Po b a⟩)
    else none
  |_=>none
 |_=>none
section
variable{E:Env}{B0:Nat}{X A:Nat->Prop}{w0:World}{nt:Nat}{st:St}{a:Act}{w:World}{μ:Mu}
theorem EQ.add{w:World}{H:Nat->Prop}{μ:Mu}{tmps:Array Value}{ρ:List Entry}(h:EQ w H μ tmps ρ){t:Nat}{s:SV}(hs:D w H μ s (tmps.getD t undef)):EQ w H μ tmps (addE ρ t s):=by
 intro b e a;simp only[addE,CK]at a;split at a
 .rename_i e1;cases a;unfold CZ;exact hs
 .exact h b e a
theorem c2i(h:SD E B0 X A w0 nt st a w μ){t:Nat}{pre:Prop}{st':St}(I:d43 E t st=some (pre,st'))(hp:pre):∃d,SD E B0 X A w0 nt st' a w d:=by
 unfold d43 at I;split at I;rotate_left
 .cases I
 rename_i t' ok k i fy;split at I;rotate_left
 .cases I
 rename_i T Z n F hk;split at I;rename_i cs y hF;split at I;rotate_left
 .cases I
 rename_i ba;obtain⟨ba,pz⟩:=ba;simp only[Ii]at I;obtain⟨rfl,rfl⟩:=I;obtain⟨rfl,hi⟩:=hp;have dt:=h.env t _ fy;have j8:=MJ fy;simp only at j8;subst j8;unfold CZ at dt;simp only at dt;generalize hv:a.tmps.getD t' undef=v at dt;cases dt with
 |fp U8=>
 simp only[Kp]at U8;obtain⟨R,J,b,o,wx,rfl⟩:=U8;obtain⟨bl,e,bb⟩:=h.own.blk _ _ o;rw[hk]at e;cases e;obtain⟨S,qs',U,P,_⟩:=bb;simp only[Option.map_none]at P;obtain⟨rfl,rfl⟩:=Ot U;obtain⟨b',us,h1,h2,h3⟩:=P.mem i hi;rw[wx]at h1;cases h1;rcases h3 with⟨h3,_⟩|⟨_,z,rfl,V⟩
 .cases h3
 have m9:k<st.own.length:=(J9.1 hk).1;have bm:i<J.length:=by rw[P.ql];exact hi
 rw[hF]at V;let L:=st.own.length
 let d:Mu:=λj=>if j=k then some (BL R (J.set i []))else if j=L then some (.pointer (some ⟨b,0,none⟩))else if L<j then z[j-L-1]? else μ j
 have m1:d k=some (BL R (J.set i [])):=by simp[d]
 have m2:d L=some (.pointer (some ⟨b,0,none⟩)):=by simp[d,show¬L=k from Dx]
 have m3:∀j,L<j->d j=z[j-L-1]?:=λj f=>by simp[d,show¬j=k from Dx,show¬j=L from Dx,f]
 have m4:∀j,j≠k->j<L->d j=μ j:=λj h1 h2=>by simp[d,h1,show¬j=L from Dx,show¬L<j from Dx]
 have bh:∀{j x},d j=some x->(j=k/\x=BL R (J.set i []))\/(j=L/\x=.pointer (some ⟨b,0,none⟩))\/(L<j/\z[j-L-1]?=some x)\/(j≠k/\j<L/\μ j=some x):=by
  intro j x f;by_cases U:j=k
  .subst U;rw[m1]at f;exact .inl ⟨rfl,(Kf f).symm⟩
  .by_cases e2:j=L
   .subst e2;rw[m2]at f;exact .inr (.inl ⟨rfl,(Kf f).symm⟩)
   .by_cases e3:L<j
    .rw[m3 j e3]at f;exact .inr (.inr (.inl ⟨e3,f⟩))
    .rw[m4 j U Dx]at f;exact .inr (.inr (.inr ⟨U,Dx,f⟩))
 have b7:∀(j:Nat) (u:Value),z[j]?=some u->∃t r,Z[j]?=some t/\y[j]?=some r/\JC w (held A μ) (Xn z) u t.1 t.2 r.1 r.2 none:=by intro j u M;have G:j<z.length:=(J9.1 M).1;have l1:=V.len;have l2:=V.rlen;simp only at l2;have g1:Z[j]?=some (Z[j]'Dx):=J6 _;have g2:y[j]?=some (y[j]'Dx):=J6 _;exact⟨_,_,g1,g2,V.rows j _ _ u g1 g2 M⟩
 have j8:∀(j:Nat) (u:Value),z[j]?=some u->∃a n m,u=.slice a n m:=λj u M=>by obtain⟨_,_,_,_,a,m,e,_⟩:=b7 j u M;exact⟨_,_,_,e⟩
 have B:∀{j x c},d j=some x->CN x c->(∃(N K:Nat) (l:List Value) (u:Value),J[N]?=some l/\l[K]?=some u/\FC u=some c/\((j=k/\N≠i)\/(j=L+K/\N=i)))\/(j≠k/\j<L/\μ j=some x):=by
  intro j x c f hx;rcases bh f with⟨rfl,rfl⟩|⟨rfl,rfl⟩|⟨G,M⟩|h4
  .obtain⟨l,u,g1,g2,q⟩:=Nz.1 hx;obtain⟨N,b8⟩:=L3.1 g1;obtain⟨K,Q⟩:=L3.1 g2;obtain⟨U,e2⟩:=Uu b8 Q;exact .inl ⟨N,K,l,u,e2,Q,q,.inl ⟨rfl,U⟩⟩
  .refine .inl ⟨i,0,_,_,h2,rfl,?_,.inr ⟨rfl,rfl⟩⟩;have e:=c58.1 hx;simp only at e;subst e;rfl
  .obtain⟨a,n,m,rfl⟩:=j8 _ _ M;refine .inl ⟨i,j-L,_,_,h2,?_,Se.1 hx,.inr ⟨Dx,rfl⟩⟩;rw[show j-L=(j-L-1)+1 from Dx];simpa using M
  .exact .inr h4
 have cx:∀{N K l u c},J[N]?=some l->l[K]?=some u->FC u=some c->CN (BL R J) c:=λg1 g2 q=>Nz.2 ⟨_,_,Jb g1,Jb g2,q⟩;have bc:∀c,held A d c->held A μ c:=by
  rintro c (hc|⟨j,x,f,hx⟩)
  .exact .inl hc
  .rcases B f hx with⟨N,K,l,u,g1,g2,q,_⟩|⟨_,_,Q⟩
   .exact .inr ⟨k,_,o,cx g1 g2 q⟩
   .exact .inr ⟨j,x,Q,hx⟩
 have hμ:∀j x,μ j=some x->(∀R J,x≠BL R J)->d j=some x:=by
  intro j x f hx;have b9:j≠k:=λe=>by subst e;rw[o]at f;exact hx _ _ (Kf f).symm
  have G:j<L:=by
   rcases Nj j L with H|H
   .exact H
   .rw[h.fresh j H]at f;cases f
  rw[m4 j b9 G];exact f
 have hf:∀j W qs2,μ j=some (BL W qs2)->∃S qs',d j=some (BL S qs')/\∀(i:Nat) (p:Value),W[i]?=some p->S[i]?=some p:=by
  intro j W qs2 f;by_cases e:j=k
  .subst e;rw[o]at f;obtain⟨rfl,rfl⟩:=Ot (Kf f);exact⟨_,_,m1,λ_ _ h=>h⟩
  .have G:j<L:=by
    rcases Nj j L with H|H
    .exact H
    .rw[h.fresh j H]at f;cases f
   exact⟨_,_,(m4 j e G).trans f,λ_ _ h=>h⟩
 have hd:∀s v,D w (held A μ) μ s v->D w (held A d) d s v:=λs v h=>h.shift bc hμ hf;refine⟨d,⟨λj x f=> ?_,λj K x x' c f Q hx d8=> ?_,λj x c f hx=> ?_,h.own.bnd⟩,h.fr,h.base,λg s hg=>⟨(h.glo g s hg).1,hd _ _ (h.glo g s hg).2⟩,h.dfr,h.size,(h.env.shift hd).add (by rw[hv];exact .own m2),λj f=> ?_,λj x hx=> ?_⟩
 .rcases bh f with⟨rfl,rfl⟩|⟨rfl,rfl⟩|⟨G,M⟩|⟨b9,G,Q⟩
  .refine⟨.fam T Z n (some (i,L)) F,by rw[Jg (by simpa using m9)];simp[m9,L],R,J.set i [],rfl,⟨P.pl,by simp[P.ql],λY j1 i2 j2 C l u1 u2 c g1 g2 q O g5 g6=> ?_,λY f7=> ?_⟩,λN c' e=>by cases e;exact⟨_,wx,m2⟩⟩
   .exact P.nd Y j1 i2 j2 C l u1 u2 c (Uu g1 g2).2 g2 q (Uu O g5).2 g5 g6
   .obtain⟨b1,C,g1,g2,q⟩:=P.mem Y f7;by_cases e:i=Y
    .subst e;exact⟨b1,[],g1,H3,.inl ⟨rfl,rfl⟩⟩
    .refine⟨b1,C,g1,H4,.inr ⟨λe'=>e (Kf e'),?_⟩⟩;rcases q with⟨q,_⟩|⟨_,us3,e3,O⟩
     .cases q
     .exact⟨us3,e3,O.keep ⟨Jf _,λ_ _ _=>rfl,λc _=>bc c⟩ (λ_ _ _ _=>rfl)⟩
  .refine⟨_,by rw[Jm (by simp[L]),Kq,Kw];rfl,?_⟩;obtain⟨b2,vs,e2,hh,hl,df,hD⟩:=V.cells;cases e2;refine⟨b,vs,rfl,hh,Eb,df,λj s v hs hv=> ?_⟩;simp only[In]at hs;obtain⟨s0,bz,rfl⟩:=hs;have T8:=hD j s0 v bz hv;have t8:=Je.1 V.memc s0 (Jb bz);refine WX bc (λkk jj x pd hx=> ?_) T8;simp only[K0]at pd;subst pd;rw[m3 _ Dx,show L+1+kk-L-1=kk from Dx];exact hx
  .obtain⟨t,r,g1,g2,q⟩:=b7 _ _ M;refine⟨.row t.1 t.2 r.1 r.2 none,?_,q.shift (λs v qp hs=>HJ bc hs qp)⟩;rw[Jm (by simp[L]at G⊢;omega),Kq,show j-st.own.length=(j-L-1)+1 by simp only[L]at G⊢;omega,Lb];have sj:j-L-1<(Po Z y).length:=by rw[b0h _ _ ba];exact(J9.1 g1).1
   obtain⟨t',r',k1,k2,k3⟩:=b69 Z y _ _ (J6 sj);rw[g1]at k1;rw[g2]at k2;cases k1;cases k2;rw[J6 sj,k3]
  .obtain⟨bl,e,bb⟩:=h.own.blk j x Q;refine⟨bl,?_,bb.shift bc hμ hf⟩;rw[Jg (by simpa[L]using G),Jk (Ne.symm b9)];exact e
 .rcases B f hx with⟨Y,j1,C,u1,g1,g2,q,O⟩|⟨g1,g2,q⟩<;>rcases B Q d8 with⟨i2,j2,l,u2,k1,k2,k3,k4⟩|⟨k1,k2,k3⟩
  .obtain⟨rfl,rfl⟩:=P.nd Y j1 i2 j2 C l u1 u2 c g1 g2 q k1 k2 k3;rcases O with⟨rfl,O⟩|⟨rfl,O⟩<;>rcases k4 with⟨rfl,k4⟩|⟨rfl,k4⟩
   .rfl
   .exact absurd k4 O
   .exact absurd O k4
   .rfl
  .exact absurd (h.own.inj K k x' _ c k3 o d8 (cx g1 g2 q)) k1
  .exact absurd (h.own.inj j k x _ c q o hx (cx k1 k2 k3)) g1
  .exact h.own.inj j K x x' c q k3 hx d8
 .rcases B f hx with⟨Y,j1,C,u1,g1,g2,q,_⟩|⟨_,_,q⟩
  .exact h.own.rng k _ c o (cx g1 g2 q)
  .exact h.own.rng j x c q hx
 .simp only[K5,Kq,Kt,b0h _ _ ba]at f;rw[m3 j (by simp only[L];omega)];exact Li (by rw[V.len];simp only[L];omega)
 .have b9:j≠k:=λe=>H1;have:=h.anc j x hx;have G:j<L:=by
   rcases Nj j L with H|H
   .exact H
   .rw[h.fresh j H]at this;cases this
  rw[m4 j b9 G];exact this
end
def selOK(E:Env)(own:List Blk)(ks:List Nat):Bool:=Rc ks&&ks.all (λk=>decide (k<own.length))&&decide (E.na<=ks.length)&&(List.range E.na).all λj=>ks.getD j 0==j
def gSel(E:Env)(ks:List Nat)(st:St):Option (Prop×St):=
 if selOK E st.own ks=true then some (True,⟨st.ρ.map λe=>{e with sv:=e.sv.ren2 λk=>BQ k ks},ks.map λk=>(st.own.getD k .dead).ren λk=>BQ k ks⟩)else none
section
variable{E:Env}{B0:Nat}{X A:Nat->Prop}{w0:World}{nt:Nat}{st:St}{a:Act}{w:World}{μ:Mu}
theorem c9q(h:SD E B0 X A w0 nt st a w μ){ks:List Nat}{r:Prop}{m:St}(l:gSel E ks st=some (r,m)):∃c,SD E B0 X A w0 nt m a w c:=by
 unfold gSel at l;split at l;rotate_left
 .cases l
 rename_i y;simp only[Ii]at l;obtain⟨_,rfl⟩:=l;simp only[selOK,Ip]at y;obtain⟨⟨⟨C,c6⟩,qy⟩,F⟩:=y;have z:=b10 C;let c:Mu:=λj=>(ks[j]?).bind μ
 have n:∀{j x},c j=some x->∃k,ks[j]?=some k/\μ k=some x:=λd=>by simpa[c,Jd]using d
 have u:∀k j x,BQ k ks=some j->μ k=some x->c j=some x:=λk j x d i=>by have:=QI d;simp[c,this,i]
 have o:∀b,held A c b->held A μ b:=by
  rintro b (v|⟨j,x,d,hx⟩)
  .exact .inl v
  .obtain⟨k,_,i⟩:=n d;exact .inr ⟨k,x,i,hx⟩
 refine⟨c,⟨λj x d=> ?_,λj j' x G b d H hx I=> ?_,λj x b d hx=> ?_,h.own.bnd⟩,h.fr,h.base,λg s hs=>⟨(h.glo g s hs).1,HJ o (h.glo g s hs).2 (h.glo g s hs).1⟩,h.dfr,h.size,λt e l=> ?_,λj d=> ?_,λj x hx=> ?_⟩
 .obtain⟨k,i,hx⟩:=n d;obtain⟨J,e,v⟩:=h.own.blk k x hx;refine⟨J.ren λk=>BQ k ks,?_,v.ren o u⟩;simp[i,e]
 .obtain⟨k,i,K⟩:=n d;obtain⟨L,M,N⟩:=n H;have:=h.own.inj k L x G b K N hx I;subst this;have O:=b18 z i;have B:=b18 z M;rw[O]at B;cases B;rfl
 .obtain⟨k,_,i⟩:=n d;exact h.own.rng k x b i hx
 .rw[UJ (f:=λ(e:Entry)=>{e with sv:=e.sv.ren2 λk=>BQ k ks}) (λ_=>rfl),Jc]at l;obtain⟨P,Q,rfl⟩:=l;have:=h.env t P Q;unfold CZ at this⊢;simp only;split at this
  .exact b1c o u this
  .exact⟨λq=>b1c o u (this.1 q),this.2⟩
 .simp only[K8]at d;have:ks[j]?=none:=Li d;simp[c,this]
 .have R:=Env.ak_lt (Env.an_ak hx);have d:=Je.1 F j (by simpa using R);have S:ks[j]?=some j:=by
   rw[J6 Dx];simp only[M5,It,J6 (show j<ks.length from Dx)]at d;rw[d]
  simp only[c,S,Lw];exact h.anc j x hx
end
def c42(m:Nat)(T:TypeId)(b:List (TypeId×Nat))(st:St):Option (Prop×St):=match st.own[m]? with
 |some (.map K false a _)=>some (∀q,a q=false,⟨st.ρ,st.own.set m (.pmap K st.own.length (λ_=>false) (λ_=>0))++[.fam T b 0 none (λ_=>⟨[],[]⟩)]⟩)
 |_=>none
section
variable{E:Env}{B0:Nat}{X A:Nat->Prop}{w0:World}{nt:Nat}{st:St}{a:Act}{w:World}{μ:Mu}
theorem c0n(h:SD E B0 X A w0 nt st a w μ){m:Nat}{T:TypeId}{I:List (TypeId×Nat)}{l:Prop}{n:St}(o:c42 m T I st=some (l,n))(R:l):∃z,SD E B0 X A w0 nt n a w z:=by
 unfold c42 at o;split at o;rotate_left
 .cases o
 rename_i K B val J;simp only[Ii]at o;obtain⟨rfl,rfl⟩:=o;have hmlt:m<st.own.length:=(J9.1 J).1;have S:=h.fresh st.own.length (Jf _);have U:μ.set st.own.length (BL [] []) st.own.length=some (BL [] []):=Ef;have f:∀{j x},μ j=some x->μ.set st.own.length (BL [] []) j=some x:=λ{j x} d=>by
  unfold Mu.set;split
  .rename_i e;rw[e,S]at d;cases d
  .exact d
 have t:∀{j x},μ.set st.own.length (BL [] []) j=some x->(j=st.own.length/\x=BL [] [])\/(j≠st.own.length/\μ j=some x):=by
  intro j x d;unfold Mu.set at d;split at d
  .exact .inl ⟨‹_›,(Kf d).symm⟩
  .exact .inr ⟨‹_›,d⟩
 have nohas:∀b,¬CN (BL [] []) b:=λb k=>by obtain⟨V,u,C,_⟩:=Nz.1 k;simp at C
 have L:∀b,held A (μ.set st.own.length (BL [] [])) b->held A μ b:=by
  rintro b (k|⟨j,x,d,hx⟩)
  .exact .inl k
  .rcases t d with⟨_,rfl⟩|⟨_,y⟩
   .exact C7
   .exact .inr ⟨j,x,y,hx⟩
 have M:∀s v,D w (held A μ) μ s v->D w (held A (μ.set st.own.length (BL [] []))) (μ.set st.own.length (BL [] [])) s v:=λs v h=>h.shift L (λj x d _=>f d) (λj F G d=>⟨F,G,f d,λ_ _ h=>h⟩);refine⟨_,⟨λj x d=> ?_,λj N x W b d y hx O=> ?_,λj x b d hx=> ?_,h.own.bnd⟩,h.fr,h.base,λg s P=>⟨(h.glo g s P).1,M _ _ (h.glo g s P).2⟩,h.dfr,h.size,h.env.shift M,λj d=> ?_,λj x hx=>f (h.anc j x hx)⟩
 .rcases t d with⟨rfl,rfl⟩|⟨b9,y⟩
  .refine⟨.fam T I 0 none (λ_=>⟨[],[]⟩),Dz,[],[],rfl,⟨rfl,rfl,λi j i' N V us' u u' b C=>by simp at C,λi Y=>absurd Y (Jv _)⟩,λi c e=>E5⟩
  .obtain⟨Z,e,k⟩:=h.own.blk j x y;have H:j<st.own.length:=(J9.1 e).1;by_cases Q:j=m
   .subst Q;rw[J]at e;cases e;obtain⟨r,g,rfl,qw,_,_⟩:=k;have:B=λ_=>false:=Nh R;subst this;exact⟨.pmap K st.own.length (λ_=>false) (λ_=>0),by rw[Jg (by simpa using H)];simp[H],⟨_,_,U⟩,r,g,rfl,qw,λq hq=>by cases hq⟩
   .refine⟨Z,by rw[Jg (by simpa using H),Jk (Ne.symm Q)];exact e,k.shift L (λj x d _=>f d) (λj F G d=>⟨F,G,f d,λ_ _ h=>h⟩)⟩
 .rcases t d with⟨rfl,rfl⟩|⟨_,g1⟩<;>rcases t y with⟨rfl,rfl⟩|⟨_,g2⟩
  .rfl
  .exact C7
  .exact absurd O (nohas b)
  .exact h.own.inj j N x W b g1 g2 hx O
 .rcases t d with⟨rfl,rfl⟩|⟨_,g1⟩
  .exact C7
  .exact h.own.rng j x b g1 hx
 .simp only[Iv,Kq]at d;unfold Mu.set;rw[J8 Dx];exact C6
end
def XJ(own:List Blk):Nat->List (TypeId×Nat)->Option (List (Nat×(Nat->List SV)))
 |_,[]=>some []
 |c,t::a=>match own[c]? with
  |some (.row T b n f _)=>if T=t.1/\b=t.2 then(XJ own (c+1) a).map λr=>(n,f)::r else none
  |_=>none
theorem b3p{own:List Blk}:∀(ts:List (TypeId×Nat)) (c:Nat) (a:List (Nat×(Nat->List SV))),XJ own c ts=some a->a.length=ts.length/\∀(j:Nat) (t:TypeId×Nat),ts[j]?=some t->∃r b,a[j]?=some r/\own[c+j]?=some (.row t.1 t.2 r.1 r.2 b)
 | [],c,a,h=>by simp[XJ]at h;subst h;exact⟨rfl,λj t h=>E8⟩
 |t::ts,c,a,h=>by
  simp only[XJ]at h;split at h;rotate_left
  .cases h
  rename_i T sz n f b g;split at h;rotate_left
  .cases h
  rename_i e;obtain⟨rfl,rfl⟩:=e;simp only[Jc]at h;obtain⟨r,i,rfl⟩:=h;obtain⟨h1,k⟩:=b3p ts (c+1) r i;refine⟨Ep,λj l ht=> ?_⟩;match j with
  |0=>simp at ht;subst ht;exact⟨(n,f),b,rfl,g⟩
  |j+1=>
   obtain⟨m,d,o,q⟩:=k j l Fc;exact⟨m,d,by simpa using o,by rw[show c+(j+1)=c+1+j from Dx];exact q⟩
def Qw(j:Nat):SV->Bool
 |.osl q=>q==j
 |_=>false
def VL(c m q:Nat):Option Nat:=if EH c m q&&decide (c<q)then some (q-c-1)else none
def c08(E:Env)(k:Nat)(st:St):Option (Prop×St):=match st.own[k]? with
 |some (.fam T a n (some (i,c)) F)=>match st.own[c]? with
  |some (.cells h g)=>(XJ st.own (c+1) a).bind λf=>
   if h=T/\(g.map (SV.ren0 (VL c a.length))).all SV.memc=true/\((List.range a.length).all λj=>(g.map (SV.ren0 (VL c a.length))).any (Qw j))=true/\EH c a.length k=false/\((List.range (a.length+1)).all λd=> !E.ak (c+d))=true/\E.ak k=false then
    some (True,⟨st.ρ.map λe=>{e with sv:=e.sv.uf2 c a.length},
     Qh (λq b=>if q=k then .fam T a n none (λj=>if j=i then⟨g.map (SV.ren0 (VL c a.length)),f⟩else F j)else if EH c a.length q=true then .dead else b.uf c a.length) 0 st.own⟩)
   else none
  |_=>none
 |_=>none
section
variable{E:Env}{B0:Nat}{X A:Nat->Prop}{w0:World}{nt:Nat}{st:St}{a:Act}{w:World}{μ:Mu}
theorem b70(h:SD E B0 X A w0 nt st a w μ){k:Nat}{pre:Prop}{st':St}(J:c08 E k st=some (pre,st')):∃μ',SD E B0 X A w0 nt st' a w μ':=by
 unfold c08 at J;split at J;rotate_left
 .cases J
 rename_i T Z n i c F hk;split at J;rotate_left
 .cases J
 rename_i Tc cs hc;simp only[Jd]at J;obtain⟨R,hrows,J⟩:=J;split at J;rotate_left
 .cases J
 rename_i dz;obtain⟨rfl,t8,c6,hkr,jp,pz⟩:=dz;simp only[Ii]at J;obtain⟨_,rfl⟩:=J;obtain⟨r1,r2⟩:=b3p Z (c+1) R hrows;let m:=Z.length
 have M:∀y,EH c m y=true->E.ak y=false:=λy hy=>by simp only[EH,Ip]at hy;have:=Je.1 jp (y-c) E7;rw[show c+(y-c)=y from Dx]at this;simpa using this
 have S:∀y,st.own.length<=y->μ y=none:=h.fresh;cases hμk:μ k with
 |none=>
  let μ':Mu:=λy=>if EH c m y=true then none else μ y
  have U:∀{y x},μ' y=some x->EH c m y=false/\μ y=some x:=by
   intro y x hy;simp only[μ']at hy;split at hy
   .cases hy
   .exact⟨by simpa using ‹¬ EH c m y=true›,hy⟩
  have bg:∀{y},EH c m y=false->μ' y=μ y:=λhy=>by simp[μ',hy]
  have V:∀b,held A μ' b->held A μ b:=by
   rintro b (hb|⟨y,x,hy,hx⟩)
   .exact .inl hb
   .exact .inr ⟨y,x,(U hy).2,hx⟩
  have dn:Drop c m (held A μ) (held A μ') μ μ':=⟨V,λy x hy hx _=>by rw[bg hy];exact hx,λy W K hy hx=>⟨W,K,by rw[bg hy];exact hx,λ_ _ h=>h⟩⟩
  refine⟨μ',⟨λy x hy=> ?_,λy y' x O b hy jm=>h.own.inj y y' x O b (U hy).2 (U jm).2,λy x b hy=>h.own.rng y x b (U hy).2,h.own.bnd⟩,h.fr,h.base,λg s L=>⟨(h.glo g s L).1,HJ V (h.glo g s L).2 (h.glo g s L).1⟩,h.dfr,h.size,h.env.drop dn,λy hy=> ?_,λy x hx=> ?_⟩
  .obtain⟨th,Zc⟩:=U hy;obtain⟨bl,e,hb⟩:=h.own.blk y x Zc;have P2:y≠k:=λe=>by subst e;rw[hμk]at Zc;cases Zc
   refine⟨bl.uf c m,?_,hb.drop dn⟩;rw[XY,e];simp only[L7,Kh];rw[J8 P2,J8 (by rw[show EH c Z.length y=EH c m y from rfl,th];simp)]
  .rw[TO]at hy;simp only[μ'];split
   .rfl
   .exact S y hy
  .have:EH c m y=false:=by
    cases hh:EH c m y with
    |false=>rfl
    |true=>have:=M y hh;rw[Env.an_ak hx]at this;cases this
   rw[bg this];exact h.anc y x hx
 |some xk=>
 obtain⟨bl,e,bb⟩:=h.own.blk _ _ hμk;rw[hk]at e;cases e;obtain⟨W,K,rfl,cy,hhole⟩:=bb;obtain⟨p,wx,Y⟩:=hhole i c rfl;simp only[Kh]at cy;have hi:i<n:=by rw[<-cy.pl];exact(J9.1 wx).1
 have bm:i<K.length:=by rw[cy.ql];exact hi
 obtain⟨bl,e,hokc⟩:=h.own.blk _ _ Y;rw[hc]at e;cases e;obtain⟨b,vs,rfl,hh,hl,df,hd⟩:=hokc;have hslice:∀j,j<m->∃u,μ (c+1+j)=some u/\(∃a n m,u=.slice a n m):=by
  intro j hj;have h1:=Je.1 c6 j (by simpa[m]using hj);simp only[Jp,Js]at h1;obtain⟨s,⟨s0,bz,rfl⟩,hs⟩:=h1;obtain⟨ii,U9⟩:=L3.1 bz;have b6:ii<vs.length:=by rw[hl];exact(J9.1 U9).1
  have hD:=hd ii s0 _ U9 (J6 b6);cases s0 with
  |osl q=>
   simp only[SV.ren0,SV.ren00]at hs;split at hs
   .rename_i j' bn;simp only[Qw,M5]at hs;subst hs;simp only[VL]at bn;split at bn
    .rename_i hq;simp only[Ip]at hq;cases bn;have T8:=hD;generalize vs[ii]=vv at T8;cases T8 with
     |osl kq=>exact⟨_,by rw[show c+1+(q-c-1)=q from Dx];exact kq,_,_,_,rfl⟩
    .cases bn
   .simp[Qw]at hs
  |own q o=>simp only[SV.ren0,SV.ren00]at hs;split at hs<;>simp[Qw]at hs
  |omp q=>simp only[SV.ren0,SV.ren00]at hs;split at hs<;>simp[Qw]at hs
  |oel q sz x o=>simp only[SV.ren0,SV.ren00]at hs;split at hs<;>simp[Qw]at hs
  |fp ok q x o=>simp only[SV.ren0,SV.ren00]at hs;split at hs<;>simp[Qw]at hs
  |clo f cs'=>simp[SV.ren0,Qw]at hs
  |_=>simp[SV.ren0,SV.ren00,Qw]at hs
 let I:List Value:=(List.range m).map λj=>(μ (c+1+j)).getD undef
 have ke:∀j u,I[j]?=some u↔j<m/\μ (c+1+j)=some u:=by
  intro j u;simp only[I,Jz];constructor
  .intro hj;simp only[Jc]at hj;obtain⟨y,hy,rfl⟩:=hj;obtain⟨th,rfl⟩:=J9.1 hy;simp only[List.length_range]at th;simp only[List.getElem_range];obtain⟨u,hu,_⟩:=hslice j th;exact⟨th,by rw[hu];rfl⟩
  .rintro⟨h1,P⟩;rw[J6 Ev];simp[P]
 let l:List Value:=.pointer (some ⟨b,0,none⟩)::I
 let μ':Mu:=λy=>if y=k then some (BL W (K.set i l))else if EH c m y=true then none else μ y
 have m1:μ' k=some (BL W (K.set i l)):=by simp[μ']
 have m3:∀y,y≠k->EH c m y=false->μ' y=μ y:=λy h1 P=>by simp[μ',h1,P]
 have U:∀{y x},μ' y=some x->(y=k/\x=BL W (K.set i l))\/(y≠k/\EH c m y=false/\μ y=some x):=by
  intro y x hy;by_cases e1:y=k
  .exact Da
  .cases C:EH c m y with
   |true=>simp[μ',e1,C]at hy
   |false=>rw[m3 y e1 C]at hy;exact .inr ⟨e1,rfl,hy⟩
 have fi:∀(j:Nat) (u:Value) (d:Nat),l[j]?=some u->FC u=some d->j<=m/\∃x,μ (c+j)=some x/\CN x d:=by
  intro j u d h1 P;match j with
  |0=>
   simp only[l,Mk,K0]at h1;subst h1;exact⟨Jj _,_,Y,.inl P⟩
  |j+1=>
   simp only[l,Lb]at h1;obtain⟨h3,h4⟩:=(ke j u).1 h1;exact⟨h3,u,by rw[show c+(j+1)=c+1+j from Dx];exact h4,.inl P⟩
 have w8:∀{j},j<=m->EH c m (c+j)=true:=λhj=>by simp[EH];omega
 have dw:∀{Q us},(K.set i l)[Q]?=some us->(Q=i/\us=l)\/(Q≠i/\K[Q]?=some us):=by
  intro Q us L;by_cases e:i=Q
  .subst e;rw[Ki bm]at L;exact .inl ⟨rfl,(Kf L).symm⟩
  .rw[Jk e]at L;exact .inr ⟨Ne.symm e,L⟩
 have cx:∀{Q j' N u d},K[Q]?=some N->N[j']?=some u->FC u=some d->CN (BL W K) d:=λg1 G B=>Nz.2 ⟨_,_,Jb g1,Jb G,B⟩;have H:∀{y x d},μ' y=some x->CN x d->(y=k/\CN (BL W K) d)\/(y=k/\∃z O,EH c m z=true/\μ z=some O/\CN O d)\/(y≠k/\EH c m y=false/\μ y=some x):=by
  intro y x d hy hx;rcases U hy with⟨rfl,rfl⟩|h3
  .obtain⟨N,u,g1,G,B⟩:=Nz.1 hx;obtain⟨Q,b8⟩:=L3.1 g1;obtain⟨j',bn⟩:=L3.1 G;rcases dw b8 with⟨rfl,rfl⟩|⟨_,g4⟩
   .obtain⟨g5,O,g6,g7⟩:=fi j' u d bn B;exact .inr (.inl ⟨rfl,_,O,w8 g5,g6,g7⟩)
   .exact .inl ⟨rfl,cx g4 bn B⟩
  .exact .inr (.inr h3)
 have V:∀d,held A μ' d->held A μ d:=by
  rintro d (fg|⟨y,x,hy,hx⟩)
  .exact .inl fg
  .rcases H hy hx with⟨_,h1⟩|⟨_,z,O,_,h1,P⟩|⟨_,_,h3⟩
   .exact .inr ⟨k,_,hμk,h1⟩
   .exact .inr ⟨z,O,h1,P⟩
   .exact .inr ⟨y,x,h3,hx⟩
 have dn:Drop c m (held A μ) (held A μ') μ μ':=by
  refine⟨V,λy x hy hx S1=> ?_,λy ps2 qs2 hy hx=> ?_⟩
  .have C:y≠k:=λe=>Hw;rw[m3 y C hy];exact hx
  .by_cases C:y=k
   .subst C;rw[hμk]at hx;obtain⟨rfl,rfl⟩:=Ot (Kf hx);exact⟨_,_,m1,λ_ _ h=>h⟩
   .exact⟨ps2,qs2,(m3 y C hy).trans hx,λ_ _ h=>h⟩
 have Pe:∀z,EH c m z=true->z≠k:=λz hz e=>by subst e;rw[show EH c m z=EH c Z.length z from rfl,hkr]at hz;cases hz
 refine⟨μ',⟨λy x hy=> ?_,λy y' x O d hy jm hx d8=> ?_,λy x d hy hx=> ?_,h.own.bnd⟩,h.fr,h.base,λg s L=>⟨(h.glo g s L).1,HJ V (h.glo g s L).2 (h.glo g s L).1⟩,h.dfr,h.size,h.env.drop dn,λy hy=> ?_,λy x hx=> ?_⟩
 .rcases U hy with⟨rfl,rfl⟩|⟨P2,hyr,jm⟩
  .refine⟨.fam Tc Z n none (λj=>if j=i then⟨cs.map (SV.ren0 (VL c Z.length)),R⟩else F j),by rw[XY,hk];simp,W,K.set i l,rfl,⟨cy.pl,by simp[cy.ql],λi1 j1 i2 j2 us1 N u1 u2 d g1 G B g4 g5 g6=> ?_,λi1 f7=> ?_⟩,λi c e=>E5⟩
   .rcases dw g1 with⟨rfl,rfl⟩|⟨e1,k1⟩<;>rcases dw g4 with⟨rfl,rfl⟩|⟨C,k4⟩
    .obtain⟨a1,x1,a2,a3⟩:=fi j1 u1 d G B;obtain⟨b1,x2,b2,b3⟩:=fi j2 u2 d g5 g6;have:=h.own.inj _ _ x1 x2 d a2 b2 a3 b3;exact⟨rfl,Dx⟩
    .obtain⟨a1,x1,a2,a3⟩:=fi j1 u1 d G B;exact absurd (h.own.inj _ _ x1 _ d a2 hμk a3 (cx k4 g5 g6)) (Pe _ (w8 a1))
    .obtain⟨a1,x1,a2,a3⟩:=fi j2 u2 d g5 g6;exact absurd (h.own.inj _ _ x1 _ d a2 hμk a3 (cx k1 G B)) (Pe _ (w8 a1))
    .exact cy.nd i1 j1 i2 j2 us1 N u1 u2 d k1 G B k4 g5 g6
   .obtain⟨b1,us1,g1,G,B⟩:=cy.mem i1 f7;by_cases e:i1=i
    .subst e;rw[wx]at g1;cases g1;refine⟨b,l,wx,H3,.inr ⟨Dz,I,rfl,?_⟩⟩;rw[J7 rfl];refine⟨⟨b,vs,rfl,hh,Eb,df,λj s v hs hv=> ?_⟩,t8,by simp[I,m],r1,λj t r u h1 P h3=> ?_⟩
     .simp only[In]at hs;obtain⟨s0,bz,rfl⟩:=hs;refine WX V (λkk jj x pd hx=> ?_) (hd j s0 v bz hv);simp only[VL]at pd;split at pd
      .rename_i hq;simp only[EH,Ip]at hq;cases pd;exact(ke _ _).2 ⟨by simp only[m];omega,by rw[show c+1+(kk-c-1)=kk from Dx];exact hx⟩
      .cases pd
     .obtain⟨h4,h5⟩:=(ke j u).1 h3;obtain⟨r',cp,h6,h7⟩:=r2 j t h1;rw[P]at h6;cases h6;obtain⟨bl,e,hb⟩:=h.own.blk _ _ h5;rw[show c+1+j=c+1+j from rfl,h7]at e;cases e;have:=JC.shift (μ':=Xn I) (λs v hp hs=>HJ V hs hp) hb;obtain⟨a1,a2,a3,a4,a5,a6,a7,a8⟩:=this;exact⟨a1,a2,a3,a4,a5,.inl rfl,a7,a8⟩
    .refine⟨b1,us1,g1,by rw[Jk (Ne.symm e)];exact G,.inr ⟨Dz,?_⟩⟩;rw[J8 e];rcases B with⟨B,_⟩|⟨_,us3,e3,g4⟩
     .exact absurd (Kf B).symm e
     .exact⟨us3,e3,g4.keep ⟨Jf _,λ_ _ _=>rfl,λd _=>V d⟩ (λ_ _ _ _=>rfl)⟩
  .obtain⟨bl,e,hb⟩:=h.own.blk y x jm;refine⟨bl.uf c m,?_,hb.drop dn⟩;rw[XY,e];simp only[L7,Kh];rw[J8 P2,J8 (by rw[show EH c Z.length y=EH c m y from rfl,hyr];simp)]
 .rcases H hy hx with⟨e1,g1⟩|⟨e1,z,xz,g1,G,B⟩|⟨e1,e1',g1⟩<;>rcases H jm d8 with⟨C,k1⟩|⟨C,z',xz',k1,k2,k3⟩|⟨C,e2',k1⟩
  .omega
  .omega
  .exact absurd (h.own.inj y' k _ _ d k1 hμk d8 g1) C
  .omega
  .omega
  .have:=h.own.inj y' z _ _ d k1 G d8 B;subst this;rw[g1]at e2';cases e2'
  .exact absurd (h.own.inj y k _ _ d g1 hμk hx k1) e1
  .have:=h.own.inj y z' _ _ d g1 k2 hx k3;subst this;rw[k1]at e1';cases e1'
  .exact h.own.inj y y' x O d g1 k1 hx d8
 .rcases H hy hx with⟨e1,g1⟩|⟨e1,z,xz,g1,G,B⟩|⟨e1,e1',g1⟩
  .exact h.own.rng k _ d hμk g1
  .exact h.own.rng z _ d G B
  .exact h.own.rng y x d g1 hx
 .rw[TO]at hy;have m9:k<st.own.length:=(J9.1 hk).1;simp only[μ'];rw[J8 Dx];split
  .rfl
  .exact S y hy
 .have e1:y≠k:=λe=>H1;have C:EH c m y=false:=by
   cases hh:EH c m y with
   |false=>rfl
   |true=>have:=M y hh;rw[Env.an_ak hx]at this;cases this
  rw[m3 y e1 C];exact h.anc y x hx
end
def g15(k:Nat)(st:St):Option (Prop×St):=match st.own[k]? with
 |some (.rowh T a n f c i u)=>if u.all SV.pure then some (True,⟨st.ρ,st.own.set k (.row T a n (λq=>Bl (decide (q=i)) u (f q)) c)⟩)else none
 |_=>none
section
variable{E:Env}{B0:Nat}{X A:Nat->Prop}{w0:World}{nt:Nat}{st:St}{a:Act}{w:World}{μ:Mu}
theorem c4n(h:SD E B0 X A w0 nt st a w μ){k:Nat}{l:Prop}{g:St}(d:g15 k st=some (l,g)):SD E B0 X A w0 nt g a w μ:=by
 unfold g15 at d;split at d;rotate_left
 .cases d
 rename_i T sz n f c i u t;split at d;rotate_left
 .cases d
 rename_i C;simp only[Ii]at d;obtain⟨_,rfl⟩:=d;have F:k<st.own.length:=(J9.1 t).1;refine⟨⟨λj x hj=> ?_,h.own.inj,h.own.rng,h.own.bnd⟩,h.fr,h.base,h.glo,h.dfr,h.size,h.env,λj hj=>h.fresh j En,h.anc⟩;obtain⟨G,e,y⟩:=h.own.blk j x hj;by_cases z:j=k
 .subst z;rw[t]at e;cases e;refine⟨_,by rw[Ki F],?_⟩;obtain⟨b,o,m,H,rfl,I,J,K,hi,L,M,N,O,P,Q,R⟩:=y;refine DI.row_weak (f:=λq=>if q=i then u else f q) (λq=>by have:=Xv (decide (q=i)) u (f q);simpa only[Jh]using this) ⟨_,m,rfl,I,J,K,λq r=> ?_,.inr ⟨b,o,H,Dx,rfl,N,O,P,λq j s v r hs B=> ?_⟩⟩
  .by_cases e:q=i
   .subst e;simp only[Kp];exact⟨L,C⟩
   .simp only[J8 e];exact M q r e
  .by_cases e:q=i
   .subst e;simp only[Kp]at hs;exact R j s v hs B
   .simp only[J8 e]at hs;exact Q q j s v r e hs B
 .exact⟨G,by rw[Jk (Ne.symm z)];exact e,y⟩
end
def YT(a:Array Oper)(done:List Nat):List Nat:=
 (List.range a.size).filter λi=> !done.contains i&&((a[i]?).map (λo=>o.after.toList.all λe=> !Region.binds .any e||done.contains e.on)).getD false
def Wl(P:Program){α:Type}(s:Sem α):Prop:=∀w a c,s.run P w=.ok a c->∀b,s.run P b=.ok a b
section
variable{P:Program}{α β:Type}
theorem OT(a:α):Wl P (pure a:Sem α):=λw b w1 h w'=>by simp only[Sem.run_pure,Result.ok.injEq]at h⊢;exact⟨h.1,Ja⟩
theorem OU{s:Sem α}{k:α->Sem β}(e:Wl P s)(f:∀a,Wl P (k a)):Wl P (s >>= k):=λw b w1 h c=>by
 rw[L4]at h⊢;cases hs:s.run P w with
 |ok a d=>
  rw[hs]at h;rw[e w a d hs c];exact f a _ _ _ h c
 |halt x d=>rw[hs]at h;cases h
theorem TP(x:Halt):Wl P (Sem.halt x:Sem α):=λw a w1 h=>by simp[Sem.run]at h
theorem b7z:Wl P program:=λw a w1 h w'=>by simp only[program,Sem.run,Result.ok.injEq]at h⊢;exact⟨h.1,Ja⟩
theorem b2h(t:TypeId):Wl P (underlying t):=OU b7z λp=>by
 split
 .exact OT _
 .exact TP _
theorem f9k(t:TypeId):Wl P (typeInfo t):=OU b7z λp=>by
 split
 .exact OT _
 .exact TP _
theorem d5k(t:TypeId):Wl P (sizeOf t):=OU (f9k t) λ_=>OT _
def Nv(P:Program)(s:Sem α):Prop:=∀w a b,s.run P w≠.ok a b
theorem Nv.wl{s:Sem α}(h:Nv P s):Wl P s:=λw a b e=>absurd e (h w a b)
theorem b9s{s:Sem α}{k:α->Sem β}(h:∀a,Nv P (k a)):Nv P (s >>= k):=λw b w1 e=>by
 rw[L4]at e;cases hs:s.run P w with
 |ok a c=>rw[hs]at e;exact h a _ _ _ e
 |halt x c=>rw[hs]at e;cases e
theorem d6g(x:Halt):Nv P (Sem.halt x:Sem α):=λw a w1 h=>by simp[Sem.run]at h
theorem nv_rt(e:RuntimeError):Nv P (runtimePanic e:Sem α):=b9s λp=>by
 split;all_goals first
  |exact d6g _
  |exact b9s λ_=>b9s λ_=>d6g _
theorem c11(k:IntKind)(x y:Int)(c:BoundsCode):Wl P (boundsPanic k x y c:Sem α):=by unfold boundsPanic;dsimp only;split;all_goals exact Nv.wl (b9s λ_=>nv_rt _)
theorem c5a(v:Value):Wl P (asIntOf v):=by
 unfold asIntOf;split
 .exact OT _
 .exact TP _
 .exact TP _
theorem d3b(v:Value):Wl P (Instr.sureAddr v):=by
 unfold Instr.sureAddr;split
 .exact OT _
 .exact TP _
theorem d8q(t:TypeId)(x i:Value):Wl P (Instr.indexAt t x i):=by
 unfold Instr.indexAt;refine OU (c5a _) λq=>OU (b2h _) λd=> ?_;dsimp only;repeat' first
  |exact OT _
  |exact TP _
  |exact c11 _ _ _ _
  |exact d3b _
  |exact b2h _
  |exact d5k _
  |refine OU ?_ λ_=> ?_
  |split
theorem d80(x:Value)(y:Nat)(c:BoundsCode):Wl P (Instr.sliceBound x y c):=by
 unfold Instr.sliceBound;refine OU (c5a _) λq=> ?_;dsimp only;repeat' first
  |exact OT _
  |exact c11 _ _ _ _
  |split
theorem c9p(b:Bool)(n m:Nat)(lo hi mx:Option Value):Wl P (Instr.sliceBounds b n m lo hi mx):=by
 unfold Instr.sliceBounds;dsimp only;repeat' first
  |exact OT _
  |exact TP _
  |exact d80 _ _ _
  |refine OU ?_ λ_=> ?_
  |split
def Vq(P:Program)(o:Oper):Bool:=match o.guard with
 |some _=>false
 |none=>match o.op with
  |.move _=>true
  |.indexAddr _ _ _=>true
  |.slice t _ _ _ _=>match P.underlying t with
   |some (.slice _)=>true
   |_=>false
  |.fieldAddr s _ f=>match P.underlying s with
   |some (.struct a)=>match a[f]? with
    |some b=>match P.info? b.type with
     |some i=> !Nat.beq i.size 0
     |none=>false
    |none=>false
   |_=>false
  |_=>false
theorem c3x{t:TypeId}{d:TypeDesc}{w:World}(h:P.underlying t=some d):(underlying t).run P w=.ok d w:=by simp[underlying,program,Sem.run,h,Result.andThen]
theorem f1n{s:TypeId}{x:Value}{f:Nat}{fs:Array Field}{b:Field}{i:TypeInfo}(e:P.underlying s=some (.struct fs))(g:fs[f]?=some b)(j:P.info? b.type=some i)(k:i.size≠0):Wl P (Instr.fieldAt s x f):=by
 intro w a d h c;unfold Instr.fieldAt at h⊢;rw[L4,c3x e]at h⊢;simp only[Result.andThen,g]at h⊢;have:Wl P (do let a<-Instr.sureAddr x;pure (.pointer (some (<-fieldPlace a b))):Sem Value):=by refine OU (d3b _) λq=>OU ?_ λ_=>OT _;intro w a d h c;unfold fieldPlace at h⊢;rw[L4,HN j]at h⊢;simp only[Result.andThen,J8 k]at h⊢;exact OT _ _ _ _ h c
 exact this w a d h c
theorem d9z{t e:TypeId}{x:Value}{lo hi mx:Option Value}(c:P.underlying t=some (.slice e)):Wl P (Instr.sliceAt t x lo hi mx):=by
 intro w a d h b;unfold Instr.sliceAt at h⊢;rw[L4,c3x c]at h⊢;simp only[Result.andThen]at h⊢;have:Wl P (Instr.slice t x lo hi mx):=by
  intro w a d h b;unfold Instr.slice at h⊢;rw[L4,c3x c]at h⊢;simp only[Result.andThen]at h⊢;cases x
  case slice a n m=>exact(OU (c9p _ _ _ _ _ _) λq=>OU (d5k _) λ_=>OT _:Wl P _) _ _ _ h b
  all_goals simp[stuck]at h
 exact this w a d h b
theorem d2u{o:Oper}(a:Vq P o=true){ev:Operand->Value}{w:World}:(∃v,∀c,(execOp ev o).run P c=.ok (.value v) c)\/∃x d,(execOp ev o).run P w=.halt x d:=by
 have b:∀{s:Sem Value},Wl P s->execOp ev o=(do pure (.value (<-s)))->(∃v,∀c,(execOp ev o).run P c=.ok (.value v) c)\/∃x d,(execOp ev o).run P w=.halt x d:=by
  intro s hs e;rw[e,L4];cases hr:s.run P w with
  |ok v d=>
   refine .inl ⟨v,λc=> ?_⟩;rw[L4,hs _ _ _ hr c];simp[Result.andThen]
  |halt x d=>exact .inr ⟨x,d,rfl⟩
 unfold Vq at a;split at a
 .cases a
 split at a
 .rename_i x d9;exact b (s:=pure (ev x)) (OT _) Gg
 .rename_i t x i d9;exact b (d8q t (ev x) (ev i)) Gg
 .rename_i t x lo hi mx d9;split at a
  .rename_i e g;exact b (d9z (lo:=lo.map ev) (hi:=hi.map ev) (mx:=mx.map ev) (x:=ev x) g) Gg
  .cases a
 .rename_i s x f d9;split at a
  .rename_i fs j;split at a
   .rename_i fd k;split at a
    .rename_i i l;refine b (f1n (x:=ev x) j k l ?_) Gg;intro e;rw[e]at a;cases a
    .cases a
   .cases a
  .cases a
 .cases a
end
def Ul(a:Array Oper)(x:Oper)(i:Nat):List Oper->Nat->Bool
 | [],_=>true
 |y::r,j=>(Nat.beq j i||FA y i||FA x j||x.apart a y)&&Ul a x i r (j+1)
def TR(P:Program)(a:Array Oper):List Oper->Nat->List Nat
 | [],_=>[]
 |x::r,i=>match Vq P x&&Ul a x i a.toList 0 with
  |true=>i::TR P a r (i+1)
  |false=>TR P a r (i+1)
def f1b:List Oper->Bool
 | []=>true
 |o::r=>match o.op with
  |.select _ _=>false
  |_=>f1b r
theorem c0z:∀{l:List Oper},f1b l=true->∀o∈l,∀a b,o.op≠.select a b
 | [],_,o,h,_,_=>E9
 |x::r,c,o,h,a,b=>by
  unfold f1b at c;split at c
  .cases c
  .rename_i hx;rcases Ji.1 h with rfl|h
   .exact λe=>hx a b e
   .exact c0z c o h a b
def d4n(P:Program)(a:Array Oper):List Nat:=match f1b a.toList with
 |true=>TR P a a.toList 0
 |false=>[]
theorem b7e{a:Array Oper}{x:Oper}{i:Nat}:∀{l:List Oper} {n:Nat},Ul a x i l n=true->∀{j y},l[j]?=some y->n+j≠i->FA y i=true\/FA x (n+j)=true\/x.apart a y=true
 | [],_,_,_,_,h=>E8
 |z::r,n,b,j,y,h=>by
  unfold Ul at b;rw[K6]at b;intro c;cases j with
  |zero=>
   simp only[Mk,K0]at h;subst h;simp only[Kd,Nat.beq_eq]at b;rcases b.1 with((h|h)|h)|h
   .exact absurd h c
   .exact .inl h
   .exact .inr (.inl h)
   .exact .inr (.inr h)
  |succ j=>
   have:=b7e b.2 (j:=j) (y:=y) E4 Dx;rw[show n+1+j=n+(j+1)from Dx]at this;exact this
theorem b6n{P:Program}{a:Array Oper}:∀{l:List Oper} {n i:Nat},i∈TR P a l n->∃x,n<=i/\l[i-n]?=some x/\Vq P x=true/\Ul a x i a.toList 0=true
 | [],_,_,h=>by simp[TR]at h
 |z::r,n,i,h=>by
  have b:i∈TR P a r (n+1)->∃x,n<=i/\(z::r)[i-n]?=some x/\Vq P x=true/\Ul a x i a.toList 0=true:=λh=>by obtain⟨x,h1,d,e⟩:=b6n h;refine⟨x,Dx,?_,e⟩;rw[show i-n=(i-(n+1))+1 from Dx];simpa using d
  unfold TR at h;split at h
  .rename_i c;rcases Ji.1 h with rfl|h
   .rw[K6]at c;exact⟨z,Jf _,Dz,c.1,c.2⟩
   .exact b h
  .exact b h
def Tv(a:Array Oper)(q done:List Nat):List Nat:=match (YT a done).find? (λi=>q.contains i)with
 |some i=>[i]
 |none=>YT a done
def andL:List Nat->(Nat->Prop)->Prop
 | [],_=>True
 |i::r,f=>f i/\andL r f
theorem c6h{f:Nat->Prop}:∀{l:List Nat},andL l f->∀i∈l,f i
 | [],_,i,a=>by simp at a
 |x::r,h,i,a=>by
  rcases Ji.1 a with rfl|a
  .exact h.1
  .exact c6h h.2 i a
def Xx(E:Env)(nt:Nat)(a:Array Oper)(q:List Nat)(K:St->Prop):Nat->List Nat->St->Prop
 |0,done,b=>match YT a done with
  | []=>K b
  |_::_=>False
 |f+1,done,b=>VW (Tv a q done) λl=>match l with
  | []=>K b
  |i::r=>andL (i::r) λi=>match a[i]? with
   |some o=>SK E o (λb=>match f0c E nt a b o with
    |some (p,c)=>KM p/\c.forceO o (Xx E nt a q K f (i::done))
    |none=>False) b
   |none=>False
def anyQ(E:Env)(nt:Nat)(a:Array Oper)(K:St->Prop)(st:St):Prop:=VW (d4n E.P a) λq=>Xx E nt a q K a.size [] st
structure Rel (ops:Array Oper) (listed:Array Bool) (done:List Nat):Prop where
 size:listed.size=ops.size
 get:∀i,i<ops.size->listed[i]?=some (done.contains i)
 lt:∀i∈done,i<ops.size
theorem f56{a:Array Oper}{listed:Array Bool}{done:List Nat}(h:Rel a listed done):Region.ready .any a listed=YT a done:=by
 unfold Region.ready YT;apply List.filter_congr;intro i hi;have c:i<a.size:=Eu;have g:∀j d,listed.getD j d=if j<a.size then done.contains j else d:=by
  intro j d;split
  .rename_i b;rw[N9,h.get j b];rfl
  .rename_i b;rw[N9,Array.getElem?_eq_none (by rw[h.size];omega)];rfl
 rw[g,J7 c];congr 1;congr 1;have e:∀j,listed.getD j false=done.contains j:=by
  intro j;rw[g];split
  .rfl
  .rename_i b;symm;rw[<-Bool.not_eq_true,List.contains_iff_mem];exact λf=>b (h.lt j f)
 cases a[i]? with
 |none=>rfl
 |some o=>simp only[Kh,e,Array.all_toList]
theorem Rel.next{a:Array Oper}{listed:Array Bool}{done:List Nat}(h:Rel a listed done){i:Nat}(hi:i<a.size):Rel a (listed.setIfInBounds i true) (i::done):=by
 refine⟨by simp[h.size],λj b=> ?_,λj b=> ?_⟩
 .by_cases e:i=j
  .subst e;rw[Array.getElem?_setIfInBounds_self_of_lt (by rw[h.size];exact hi)];simp
  .rw[M6 e,h.get j b];congr 1;simp only[List.contains_cons];have:(j==i)=false:=by simpa using Ne.symm e
   rw[this,Ng]
 .rcases Ji.1 b with rfl|b
  .exact hi
  .exact h.lt j b
section
variable{E:Env}{B0:Nat}{X A:Nat->Prop}{w0:World}{nt:Nat}
def UY(R:Exit->Act->World->Prop):Exit->Act->World->Prop
 |.normal,a,w=>R .normal a w
 |_,_,_=>False
theorem d4t(hE:EnvOK E)(hC:GI E){d:Array Oper}{q:List Nat}(hq:∀i∈q,i∈d4n E.P d){K:St->Prop}{R:Exit->Act->World->Prop}(hR:∀st a w μ,SD E B0 X A w0 nt st a w μ->K st->R .normal a w):
 ∀(f:Nat) (done:List Nat) (listed:Array Bool) (st:St) (a:Act) (w:World) (μ:Mu),SD E B0 X A w0 nt st a w μ->Rel d listed done->Xx E nt d q K f done st->wpAny E.P .any d (UY R) f listed a w:=by
 intro f;induction f with
 |zero=>
  intro done listed st a w μ h u g;simp only[Xx]at g;unfold wpAny;rw[f56 u];split at g
  .rename_i e;exact⟨e,hR st a w μ h g⟩
  .exact g.elim
 |succ f ih=>
  intro done listed st a w μ h u g;simp only[Xx,b4t]at g;have one:∀i∈Tv d q done,∀o,d[i]?=some o->∀z:Act->World->Prop,(∀B C,wpAny E.P .any d (UY R) f (listed.setIfInBounds i true) B C->z B C)->if Region.wanted o (yielded d a.tmps)then o.wp E.P a w z (UY R)else z (a.put o.dst undef) w:=by
   intro i s o m z M;split at g
   .rename_i e;rw[e]at s;cases s
   rename_i i0 r e;rw[e]at s;have N:=c6h g i s;rw[m]at N;simp only at N;obtain⟨st1,μ1,n,F⟩:=b1q h N;split at F;rotate_left
   .exact F.elim
   rename_i p O hs;rw[St.forceO_eq]at F;have b6:i<d.size:=(Kk.1 m).1;exact b0v hE hC n hs F.1.out (K:=z) (Q:=UY R) (λB C S T=>M B C (ih _ _ O B C S T (u.next b6) F.2))
  have U:=f56 u;unfold Tv at one g;split at one
  .rename_i i hf;have P5:=List.find?_some hf;have V:=List.mem_of_find?_eq_some hf;have I:=hq i (by simpa using P5);unfold d4n at I;split at I;rotate_left
   .cases I
   rename_i W;obtain⟨o,_,m,J,kq⟩:=b6n I;rw[Nat.sub_zero,La]at m;have l:=one i Dz o m (wpAny E.P .any d (UY R) f (listed.setIfInBounds i true)) (λ_ _ h=>h);have hg:o.guard=none:=by
    unfold Vq at J;split at J
    .cases J
    .assumption
   have dv:Region.wanted o (yielded d a.tmps)=true:=by simp[Region.wanted,hg]
   rw[J7 dv]at l;unfold Oper.wp at l;rcases d2u J (ev:=a.eval) (w:=w)with⟨v,hv⟩|⟨x,w1,hx⟩
   .rw[hv w]at l;refine wpAny_first m (λj o cs b L=>c0z W o (by simpa using Array.mem_of_getElem? L) cs b) (λc a w h=>h) f listed a w (λj oj L b9 Y Z=> ?_) (by rw[U];exact V) (.inl ⟨dv,hv⟩) l;have n:=b7e kq (j:=j) (y:=oj) (by rw[La];exact L) Dx;rw[L7]at n;have wt:∀{x:Oper} {k:Nat},FA x k=true->∃e∈x.after,Region.binds .any e=true/\e.on=k:=λ{x k} h=>by
     unfold FA at h;rw[Jp]at h;obtain⟨e,G,t⟩:=h;rw[K6,M5]at t;exact⟨e,by simpa using G,t.1,t.2⟩
    rcases n with n|n|n
    .obtain⟨e,G,t,h0⟩:=wt n;exact absurd h0 (Z e G t)
    .obtain⟨e,G,t,h0⟩:=wt n;rw[<-U]at V;obtain⟨_,o',nj,c6⟩:=mem_ready.1 V;rw[m]at nj;cases nj;have H:=c6 e G t;rw[h0]at H;have md:=(Kk.1 L).1;have h3:=u.get j md;rw[N9,h3]at Y H;simp only[Kx]at Y H;rw[Y]at H;cases H
    .exact n
   .rw[hx]at l;unfold Oper.upon at l;split at l<;>first|exact l.elim|(rename_i e;cases e)
  .unfold wpAny;rw[U];refine⟨λe=> ?_,λi s=> ?_⟩
   .rename_i Z;rw[Z]at g;simp only[e]at g;exact hR st a w μ h g
   .have bm:i<d.size:=by
     have:=Ku.1 (show i∈(List.range d.size).filter _ from s);simpa using this.1
    have m:d[i]?=some d[i]:=Md bm;have:=one i s _ m _ (λ_ _ h=>h);unfold wpOp;rw[m];simp only;split
    .rename_i l;rw[J7 l]at this;exact .inl this
    .rename_i l;rw[J8 l]at this;exact this
theorem c0x(l:EnvOK E)(m:GI E)(n:E.P.follows .mixedOrders=true){id:Nat}{b:Array Oper}{K:St->Prop}{st:St}{a:Act}{w:World}{μ:Mu}(h:SD E B0 X A w0 nt st a w μ)(d:anyQ E nt b K st){R:Exit->Act->World->Prop}
 (o:∀c j k f,SD E B0 X A w0 nt c j k f->K c->R .normal j k):(Code.region id b true).wp E.P R a w:=by
 refine Code.wp_mono (Q:=UY R) (λe a w h=> ?_) (wp_region_any n ?_)
 .cases e<;>first|exact h|exact h.elim
 change wpAny E.P .any b (UY R) b.size (Array.replicate b.size false) a w.drew;unfold anyQ at d;rw[b4t]at d;refine d4t l m (λi g=>g) o b.size [] _ st a w.drew μ ⟨h.own.drew,h.fr.trans Fr.drew,h.base,Ml Keeps.drew h.glo,h.dfr,h.size,h.env.keep Keeps.drew,h.fresh,h.anc⟩ ⟨Dz,λi g=>by simp[g],Dz⟩ d
end
structure Post where
 n:St->Prop
 x:Nat->St->Prop
 r:St->Prop
inductive NL where
 |slot (t:Nat) (T:TypeId) (sz:Nat)
 |cell (k o:Nat) (T:TypeId) (sz:Nat)
def f2c:SV->Bool
 |.con (.slice none 0 0)=>true
 |_=>false
theorem c6s{s:SV}(h:f2c s=true):s=.con (.slice none 0 0):=by
 unfold f2c at h;split at h
 .rfl
 .cases h
def XG(n:NL)(st:St):St:=match n with
 |.slot t T a=>match CK t st.ρ with
  |some e=>match e.guard with
   |none=>match f2c e.sv with
    |true=>⟨⟨t,none,.osl st.own.length⟩::st.ρ,st.own++[.row T a 0 (λ_=>[]) none]⟩
    |false=>st
   |some _=>st
  |none=>st
 |.cell k o T a=>match st.own[k]? with
  |some (.cells c b)=>match b[o]? with
   |some s=>match f2c s with
    |true=>⟨st.ρ,st.own.set k (.cells c (b.set o (.osl st.own.length)))++[.row T a 0 (λ_=>[]) none]⟩
    |false=>st
   |none=>st
  |_=>st
def nilL:List NL->St->St
 | [],st=>st
 |n::r,st=>nilL r (XG n st)
section
variable{E:Env}{B0:Nat}{X A:Nat->Prop}{w0:World}{nt:Nat}{st:St}{a:Act}{w:World}{μ:Mu}
theorem b7r(h:SD E B0 X A w0 nt st a w μ)(n:NL):∃l,SD E B0 X A w0 nt (XG n st) a w l:=by
 have q:μ st.own.length=none:=h.fresh _ (Jf _);have r:∀(T:TypeId) (sz:Nat),Own B0 X A w (μ.set st.own.length (.slice none 0 0)) (st.own++[.row T sz 0 (λ_=>[]) none])/\Keeps w w (held A μ) (held A (μ.set st.own.length (.slice none 0 0))) μ (μ.set st.own.length (.slice none 0 0)):=
  λT sz=>c0m (e:=T) (sz:=sz) (f:=λ_=>[]) (h.own.more Vy) q Dz
 have u:∀k,st.own.length+1<=k->(μ.set st.own.length (.slice none 0 0)) k=none:=λk d=>by unfold Mu.set;rw[if_neg Dx];exact h.fresh k Dx
 have y:∀j x,E.an j=some x->(μ.set st.own.length (.slice none 0 0)) j=some x:=λj x hx=>by have:=h.anc j x hx;unfold Mu.set;rw[J8 (λe=>by rw[e,q]at this;cases this)];exact this
 have z:(μ.set st.own.length (.slice none 0 0)) st.own.length=some (.slice none 0 0):=Ef;cases n with
 |slot t T sz=>
  simp only[XG];split;rotate_left
  .exact⟨μ,h⟩
  rename_i e B;split;rotate_left
  .exact⟨μ,h⟩
  rename_i K;split;rotate_left
  .exact⟨μ,h⟩
  rename_i hs;obtain⟨o1,o2⟩:=r T sz;refine⟨_,o1,h.fr,h.base,Ml o2 h.glo,h.dfr,h.size,λL M g=> ?_,λk d=>u k (by simpa using d),y⟩;simp only[CK]at g;split at g
  .rename_i c;cases g;subst c;have:=h.env t e B;unfold CZ at this⊢;rw[K]at this;simp only at this⊢;rw[MJ B]at this;rw[c6s hs]at this;generalize a.tmps.getD t undef=v at this;cases this;exact .osl z
  .exact(h.env.keep o2) L M g
 |cell k o T sz=>
  simp only[XG];split;rotate_left
  .exact⟨μ,h⟩
  rename_i N C F;split;rotate_left
  .exact⟨μ,h⟩
  rename_i s hs;split;rotate_left
  .exact⟨μ,h⟩
  rename_i O;obtain⟨o1,o2⟩:=r T sz;have m:k<st.own.length:=(J9.1 F).1;refine⟨_,⟨λj x P=> ?_,o1.inj,o1.rng,o1.bnd⟩,h.fr,h.base,Ml o2 h.glo,h.dfr,h.size,h.env.keep o2,λk d=>u k (by simpa using d),y⟩;obtain⟨Q,c,G⟩:=o1.blk j x P;by_cases e:j=k
  .subst e;rw[Jg m,F]at c;cases c;refine⟨.cells N (C.set o (.osl st.own.length)),by rw[Jg (by simpa using m)];simp[m],?_⟩;obtain⟨b,R,rfl,S,hl,U,H⟩:=G;refine⟨b,R,rfl,S,Eb,U,λi V v hs' I=> ?_⟩;by_cases J:i=o
   .subst J;have:=H i s v hs I;rw[c6s O]at this;have W:i<C.length:=(J9.1 hs).1;rw[Ki W]at hs';cases hs';cases this;exact .osl z
   .rw[Jk (Ne.symm J)]at hs';exact H i V v hs' I
  .refine⟨Q,?_,G⟩;by_cases bn:j<st.own.length
   .rw[Jg bn]at c;rw[Jg Fv,Jk (Ne.symm e)];exact c
   .rw[Jm Dx]at c;rw[Jm Fv];simpa using c
theorem d0q(l:List NL):∀{st:St} {μ:Mu},SD E B0 X A w0 nt st a w μ->∃b,SD E B0 X A w0 nt (nilL l st) a w b:=by
 induction l with
 |nil=>intro st μ h;exact⟨μ,h⟩
 |cons n l c=>intro st μ h;obtain⟨b,d⟩:=b7r h n;exact c d
end
theorem c4y{E:Env}{B0:Nat}{X A:Nat->Prop}{w0:World}{nt:Nat}{st:St}{a:Act}{w:World}{μ:Mu}(h:SD E B0 X A w0 nt st a w μ){l:List Nat}:SD E B0 X A w0 nt ⟨NP l st.ρ,st.own⟩ a w μ:=
 ⟨h.own,h.fr,h.base,h.glo,h.dfr,h.size,λt e b=>h.env t e (b03 b).2,h.fresh,h.anc⟩
def gk(l:List Nat)(_:Nat):List Ghost:=[.keep l]
def f8p(E:Env)(g:Ghost)(st:St):Option (Prop×St):=match g with
 |.focus t=>d43 E t st
 |.unfocus k=>c08 E k st
 |.newFam m T c=>c42 m T c st
 |.nil t T a=>some (True,XG (.slot t T a) st)
 |.sel d=>gSel E d st
 |.fz k=>some (True,st.fz E k)
 |.keep l=>some (True,⟨NP l st.ρ,st.own⟩)
 |.flat k=>g15 k st
 |.poolN T a t=>(d3d T a t st).map λs=>(True,s)
 |.poolTake k j p t b=>b5y E k j p t b st
 |.poolSeal k j p b=>b5e E k j p b st
 |.orders|.two _|.poolPut _ _ _=>none
theorem c4q{E:Env}{B0:Nat}{X A:Nat->Prop}{w0:World}{nt:Nat}{st:St}{a:Act}{w:World}{μ:Mu}(h:SD E B0 X A w0 nt st a w μ){g:Ghost}{c:Prop}{d:St}(b:f8p E g st=some (c,d))(e:c):∃f,SD E B0 X A w0 nt d a w f:=by
 cases g with
 |focus t=>exact c2i h b e
 |unfocus k=>exact b70 h b
 |newFam m T Ts=>exact c0n h b e
 |nil t T n=>cases b;exact b7r h _
 |sel ks=>exact c9q h b
 |fz k=>cases b;exact c8y h k
 |keep l=>cases b;exact⟨μ,c4y h⟩
 |flat k=>exact⟨μ,c4n h b⟩
 |orders=>cases b
 |two t=>cases b
 |poolN T n t=>
  simp only[f8p,Ih]at b;obtain⟨s,hs,_,rfl⟩:=b;exact c15 h hs
 |poolPut t p i=>cases b
 |poolTake k j p t i=>exact b6w h b e
 |poolSeal k j p i=>exact b59 h b e
def Ub(p q:Prop):Prop:=p->q
theorem Ub.mk{p q:Prop}(h:p->q):Ub p q:=h
theorem Ub.out{p q:Prop}(h:Ub p q):p->q:=h
attribute [irreducible] Ub
def two(t:Nat)(st:St):Option (Int×St×St):=match CK t st.ρ with
 |some ⟨_,none,.int k x⟩=>some (x,⟨⟨t,none,.int k 0⟩::st.ρ,st.own⟩,⟨⟨t,none,.int k 1⟩::st.ρ,st.own⟩)
 |_=>none
theorem c1v{E:Env}{B0:Nat}{X A:Nat->Prop}{w0:World}{nt:Nat}{st:St}{a:Act}{w:World}{μ:Mu}(h:SD E B0 X A w0 nt st a w μ){t:Nat}{k:IntKind}{x:Int}{n:Nat}(c:CK t st.ρ=some ⟨n,none,.int k x⟩):SD E B0 X A w0 nt ⟨⟨t,none,.int k x⟩::st.ρ,st.own⟩ a w μ:=by
 refine⟨h.own,h.fr,h.base,h.glo,h.dfr,h.size,λd e b=> ?_,h.fresh,h.anc⟩;simp only[CK]at b;split at b
 .rename_i ht;cases b;have f:=h.env t _ c;have hs:=MJ c;simp only at hs;subst hs;exact f
 .exact h.env d e b
def Qs(E:Env)(K:St->Prop):List Ghost->St->Prop
 | [],st=>K st
 |.two t::a,st=>match two t st with
  |some (x,c,d)=>KM (x=0\/x=1)/\Ub (x=0) (c.force (Qs E K a))/\Ub (x=1) (d.force (Qs E K a))
  |none=>False
 |.poolPut t p e::a,st=>match b4a E t p e st with
  |some F=>QL λv=>(F v.val).force (Qs E K a)
  |none=>False
 |g::a,st=>match f8p E g st with
  |some (p,b)=>KM p/\b.force (Qs E K a)
  |none=>False
def Oz(E:Env)(K:St->Prop):List Ghost->St->Prop
 | []=>K
 |g::a=>Qs E K (g::a)
theorem XK{E:Env}{B0:Nat}{X A:Nat->Prop}{w0:World}{nt:Nat}{a:Act}{w:World}{K:St->Prop}:∀(j:List Ghost) {st:St} {μ:Mu},SD E B0 X A w0 nt st a w μ->Qs E K j st->∃d e,SD E B0 X A w0 nt d a w e/\K d:=by
 intro j;induction j with
 |nil=>intro st μ h b;exact⟨st,μ,h,b⟩
 |cons g j l=>
  intro st μ h b;unfold Qs at b;split at b
  .cases ‹List.cons _ _=[]›
  .rename_i t f i;cases i;split at b
   .rename_i x s0 s1 c;simp only[St.force_eq]at b;obtain⟨hx,r,s⟩:=b;unfold two at c;split at c
    .rename_i n k y o;cases c;rcases hx.out with rfl|rfl
     .exact l (c1v h o) (r.out rfl)
     .exact l (c1v h o) (s.out rfl)
    .cases c
   .exact b.elim
  .rename_i t p wt f i;cases i;split at b
   .rename_i F c;obtain⟨v,e,m⟩:=b1w h c;have q:=b.out v;rw[St.force_eq]at q;exact l m q
   .exact b.elim
  .rename_i g' f _ _ i;cases i;split at b
   .rename_i p d c;rw[St.force_eq]at b;obtain⟨e,m⟩:=c4q h c b.1.out;exact l m b.2
   .exact b.elim
structure Inv where
 β:Type
 st:β->St
 ok:β->Prop
 μ:β->Nat
 nl:List NL:=[]
 sub:β->Option (Nat->Option Inv):=λ_=>none
 un:Option Nat:=none
def c32(F:Post->St->Prop)(Q:Post):Nat->St->Prop
 |0,_=>False
 |n+1,st=>F ⟨c32 F Q n,Q.x,Q.r⟩ st
def Br(b:Bool)(p q:Prop):Prop:=match b with
 |true=>p
 |false=>q
theorem Br.mk{b:Bool}{p q:Prop}(h:b=true->p)(k:b=false->q):Br b p q:=by cases b;exact k rfl;exact h rfl
theorem Br.t{p q:Prop}(h:Br true p q):p:=h
theorem Br.f{p q:Prop}(h:Br false p q):q:=h
theorem Br.litT{b:Bool}{p q:Prop}(h:b=true)(a:p):Br b p q:=by subst h;exact a
theorem Br.litF{b:Bool}{p q:Prop}(h:b=false)(a:q):Br b p q:=by subst h;exact a
attribute [irreducible] Br
def Ud:Code->Nat
 |.region id _ _=>id
 |.seq a _=>Ud a
 |.block _ c=>Ud c
 |.loop c=>Ud c
 |.scope c=>Ud c
 |_=>0
def PU(gr:Nat->List Ghost)(id:Nat):Bool:=match gr id with
 |.orders::_=>true
 |_=>false
def JF(b:Bool)(g:Nat->Bool):Code->Bool
 |.region id a d=> !d||g id||Tb (kb b a) a
 |.seq x y=>JF b g x&&JF b g y
 |.cond _ x y=>JF b g x&&JF b g y
 |.block _ c=>JF b g c
 |.loop c=>JF b g c
 |.scope c=>JF b g c
 |_=>true
noncomputable def EZ(E:Env)(nt:Nat)(I:Nat->Option Inv)(c:Code)(Q:Post)(st:St):Prop:=
 Code.rec (motive:=λ_=>(Nat->Option Inv)->Post->St->Prop)
  (λ_ Q st=>Q.n st)
  (λid f d _ Q st=>match d with
    |true=>match E.gr id with
     |.orders::k=>anyQ E nt f (Oz E Q.n k) st
     |_=>d81 E nt f (Oz E Q.n (E.gr id)) st
    |false=>Oa E nt f (Oz E Q.n (E.gr id)) f.toList st)
  (λ_ _ a b I Q st=>a I ⟨λe=>b I Q e,Q.x,Q.r⟩ st)
  (λc _ _ x y I Q st=>match CM E st.ρ none c with
    |some (.bool b)=>Br b (x I Q st) (y I Q st)
    |some (.ub p q)=>Ub p (x I Q st)/\Ub q (y I Q st)
    |_=>False)
  (λi _ b I Q st=>b I ⟨Q.n,λj e=>if j=i then Oz E Q.n (E.gr (1000+i)) e else Q.x j e,Q.r⟩ st)
  (λg b I Q st=>match I (Ud g)with
    |some v=>match v.un with
     |some n=>c32 (λQ st=>b I Q st) Q n st
     |none=>∃z,v.ok z/\Sx (nilL v.nl st) (v.st z)/\∀z,v.ok z->match ancB E (v.st z)with
      |true=>b ((v.sub z).getD I) ⟨λe=>∃h,v.ok h/\v.μ h<v.μ z/\Sx e (v.st h),Q.x,Q.r⟩ (v.st z)
      |false=>False
    |none=>False)
  (λ_ _ _ _ _ _ _ _ _=>False)
  (λi _ Q st=>Q.x i st)
  (λ_ b I Q st=>b I Q st)
  (λ_ _ Q st=>Q.n st)
  (λ_ _ _ _=>False)
  (λ_ Q st=>Q.r st)
  (λ_ _ _ _=>False)
  c I Q st
section
variable{E:Env}{nt:Nat}{I:Nat->Option Inv}{Q:Post}{st:St}
theorem g14:EZ E nt I .skip Q st=Q.n st:=rfl
theorem g0u{id:Nat}{a:Array Oper}{d:Bool}:EZ E nt I (.region id a d) Q st=match d with
 |true=>match E.gr id with
  |.orders::b=>anyQ E nt a (Oz E Q.n b) st
  |_=>d81 E nt a (Oz E Q.n (E.gr id)) st
 |false=>Oa E nt a (Oz E Q.n (E.gr id)) a.toList st:=rfl
theorem f8y{a b:Code}:EZ E nt I (.seq a b) Q st=EZ E nt I a ⟨λc=>EZ E nt I b Q c,Q.x,Q.r⟩ st:=rfl
theorem f8j{c:Operand}{x y:Code}:EZ E nt I (.cond c x y) Q st=match CM E st.ρ none c with
 |some (.bool b)=>Br b (EZ E nt I x Q st) (EZ E nt I y Q st)
 |some (.ub p q)=>Ub p (EZ E nt I x Q st)/\Ub q (EZ E nt I y Q st)
 |_=>False:=rfl
theorem g00{i:Nat}{b:Code}:EZ E nt I (.block i b) Q st=EZ E nt I b ⟨Q.n,λj a=>if j=i then Oz E Q.n (E.gr (1000+i)) a else Q.x j a,Q.r⟩ st:=rfl
theorem g1c{b:Code}:EZ E nt I (.loop b) Q st=match I (Ud b)with
 |some v=>match v.un with
  |some n=>c32 (λQ st=>EZ E nt I b Q st) Q n st
  |none=>∃z,v.ok z/\Sx (nilL v.nl st) (v.st z)/\∀z,v.ok z->match ancB E (v.st z)with
   |true=>EZ E nt ((v.sub z).getD I) b ⟨λa=>∃c,v.ok c/\v.μ c<v.μ z/\Sx a (v.st c),Q.x,Q.r⟩ (v.st z)
   |false=>False
 |none=>False:=rfl
theorem f88{f:Operand}{t:Array Tmp}{a b:Code}:EZ E nt I (.rangeFunc f t a b) Q st=False:=rfl
theorem f63{i:Nat}:EZ E nt I (.exit i) Q st=Q.x i st:=rfl
theorem f7d{b:Code}:EZ E nt I (.scope b) Q st=EZ E nt I b Q st:=rfl
theorem g0t{l:Nat}:EZ E nt I (.label l) Q st=Q.n st:=rfl
theorem g0r{l:Nat}:EZ E nt I (.goto l) Q st=False:=rfl
theorem g1n:EZ E nt I .ret Q st=Q.r st:=rfl
theorem f8v{m:String}:EZ E nt I (.refuse m) Q st=False:=rfl
end
theorem c9r{P:Program}{Q:Exit->Act->World->Prop}{c:Code}(J:Nat->Act->World->Prop)
 (i:∀n a w,J n a w->c.wp P (Exit.then (λo q=>∃m,m<n/\J m o q) Q) a w):∀n a w,J n a w->(Code.loop c).wp P Q a w:=by
 intro n a w h b k r;have s:∀n a w,J n a w->∃e o q,Q e o q/\Arrives P (lone (b.at a (.code c::.inLoop c::k)) r w) b k r e o q:=by
  intro n;induction n using Nat.strongRecOn with
  |_ n t=>
   intro a w u;obtain⟨e,d,f,g,fq⟩:=i n a w u b (.inLoop c::k) r;cases e with
   |normal=>
    obtain⟨m,v,j⟩:=g;obtain⟨e₂,a₂,w₂,hq₂,harr₂⟩:=t m v d f j;exact Df
   |exit id=>exact⟨_,d,f,g,.pass (x:=.inLoop c) rfl (λ_ _=>.inl Dz) fq⟩
   |goto l=>exact⟨_,d,f,g,.pass (x:=.inLoop c) rfl (λ_ _=>.inl Dz) fq⟩
   |ret=>exact⟨_,d,f,g,.pass (x:=.inLoop c) rfl (λ_ _=>.inl Dz) fq⟩
   |panic ch=>exact⟨_,d,f,g,.pass (x:=.inLoop c) rfl (λ_ _=>.inl Dz) fq⟩
   |outgrown=>exact⟨_,d,f,g,.pass (x:=.inLoop c) rfl (λ_ _=>.inl Dz) fq⟩
 obtain⟨e,o,q,g,fq⟩:=s n a w h;exact⟨e,o,q,g,.of_steps (.one step_loop) fq⟩
def LW(P:Program)(c:Code)(Q:Exit->Act->World->Prop)(a:Act)(w:World):Prop:=∀(b:Frame) (k:List Item) (d:List Frame),∃e f g,Q e f g/\Arrives P (lone (b.at a (.code c::.inLoop c::k)) d w) b k d e f g
theorem LW.loop{P:Program}{Q:Exit->Act->World->Prop}{c:Code}{a:Act}{w:World}(h:LW P c Q a w):(Code.loop c).wp P Q a w:=λb k d=>
 let ⟨e,a',w',hq,fq⟩:=h b k d
 ⟨e,a',w',hq,.of_steps (.one step_loop) fq⟩
theorem LW.once{P:Program}{Q:Exit->Act->World->Prop}{c:Code}{a:Act}{w:World}(h:c.wp P (Exit.then (λj m=>LW P c Q j m) Q) a w):LW P c Q a w:=by
 intro b k i;obtain⟨e,d,f,g,fq⟩:=h b (.inLoop c::k) i;cases e with
 |normal=>
  obtain⟨e₂,a₂,w₂,hq₂,harr₂⟩:=g b k i;exact Df
 |exit id=>exact⟨_,d,f,g,.pass (x:=.inLoop c) rfl (λ_ _=>.inl Dz) fq⟩
 |goto l=>exact⟨_,d,f,g,.pass (x:=.inLoop c) rfl (λ_ _=>.inl Dz) fq⟩
 |ret=>exact⟨_,d,f,g,.pass (x:=.inLoop c) rfl (λ_ _=>.inl Dz) fq⟩
 |panic ch=>exact⟨_,d,f,g,.pass (x:=.inLoop c) rfl (λ_ _=>.inl Dz) fq⟩
 |outgrown=>exact⟨_,d,f,g,.pass (x:=.inLoop c) rfl (λ_ _=>.inl Dz) fq⟩
section
variable{E:Env}{B0:Nat}{X A:Nat->Prop}{w0:World}{nt:Nat}
def PostOK(E:Env)(B0:Nat)(X A:Nat->Prop)(w0:World)(nt:Nat)(Q:Post)(R:Exit->Act->World->Prop):Prop:=
 (∀st a w μ,SD E B0 X A w0 nt st a w μ->Q.n st->R .normal a w)/\(∀i st a w μ,SD E B0 X A w0 nt st a w μ->Q.x i st->R (.exit i) a w)/\(∀st a w μ,SD E B0 X A w0 nt st a w μ->Q.r st->R .ret a w)
theorem d2z(m:EnvOK E)(n:GI E){d:Array Oper}{R:Exit->Act->World->Prop}{K:St->Prop}:∀(l:List Oper) (st:St) (a:Act) (w:World) (μ:Mu),SD E B0 X A w0 nt st a w μ->Oa E nt d K l st->
 (∀e f g c,SD E B0 X A w0 nt e f g c->K e->R .normal f g)->wpList E.P d R l a w:=by
 intro l;induction l with
 |nil=>
  intro st a w μ h b i;exact i st a w μ h b
 |cons o l q=>
  intro st a w μ h b i;simp only[b2c]at b;obtain⟨st1,μ1,r,b⟩:=b1q h b;unfold Rz at b;split at b;rotate_left
  .exact b.elim
  rename_i p j hs;rw[St.forceO_eq]at b;refine wpList_step (λKc k=> ?_);exact b0v m n r hs b.1.out (λf g c hs=>k _ _ (q j f g c hs b.2 i))
theorem b6c(hE:EnvOK E)(hC:GI E)(hm:E.P.follows .mixedOrders=true):∀(c:Code) (I:Nat->Option Inv) (Q:Post) (R:Exit->Act->World->Prop) (st:St) (a:Act) (w:World) (μ:Mu),JF E.c2 (PU E.gr) c=true->SD E B0 X A w0 nt st a w μ->PostOK E B0 X A w0 nt Q R->
 EZ E nt I c Q st->c.wp E.P R a w:=by
 intro c;induction c with
 |skip=>intro I Q R st a w μ _ h u o;exact wp_skip (u.1 st a w μ h o)
 |region id ops d=>
  intro I Q R st a w μ fj h u o;simp only[g0u]at o;have O:∀{k B C m},SD E B0 X A w0 nt k B C m->Oz E Q.n (E.gr id) k->R .normal B C:=by
   intro k B C m hs K;cases W:E.gr id with
   |nil=>rw[W]at K;exact u.1 k B C m hs K
   |cons g Y=>
    rw[W]at K;obtain⟨F,G,J,f9⟩:=XK _ hs K;exact u.1 F B C G J f9
  cases d with
  |false=>
   exact wp_region_list (d2z hE hC _ st a w μ h o (λk B C m hs K=>O hs K))
  |true=>
   dsimp only at o;split at o
   .rename_i Y W;refine c0x hE hC hm h o (λk B C m hs K=> ?_);cases Y with
    |nil=>exact u.1 k B C m hs K
    |cons g Y=>
     obtain⟨F,G,J,f9⟩:=XK _ hs K;exact u.1 F B C G J f9
   .rename_i je;have ho:PU E.gr id=false:=by
     unfold PU;split
     .rename_i Y e;exact absurd e (je Y)
     .rfl
    exact d0a hE hC hm (by simpa[JF,ho]using fj) h o (λk B C m hs K=>O hs K)
 |seq x y S T=>
  intro I Q R st a w μ fj h u o;simp only[JF,K6]at fj;refine wp_seq (S I ⟨λk=>EZ E nt I y Q k,Q.x,Q.r⟩ _ st a w μ fj.1 h ⟨λk B C m hs H=>T I Q R k B C m fj.2 hs u H,λi k B C m hs H=>u.2.1 i k B C m hs H,λk B C m hs H=>u.2.2 k B C m hs H⟩ o)
 |cond c x y S T=>
  intro I Q R st a w μ fj h u o;simp only[JF,K6]at fj;simp only[f8j]at o;split at o
  .rename_i b hb;have hd:=h.opds (g:=none) (λq b e=>E5) _ _ hb;generalize hv:a.eval c=v at hd;cases hd;refine wp_cond hv ?_;cases b
   .exact T I Q R st a w μ fj.2 h u o.f
   .exact S I Q R st a w μ fj.1 h u o.t
  .rename_i hb;have hd:=h.opds (g:=none) (λq b e=>E5) _ _ hb;generalize hv:a.eval c=v at hd;cases hd with
   | @ub b p q h1 h2=>
   refine wp_cond hv ?_;cases b
   .exact T I Q R st a w μ fj.2 h u (o.2.out (h2 rfl))
   .exact S I Q R st a w μ fj.1 h u (o.1.out (h1 rfl))
  .exact o.elim
 |block i b Z=>
  intro I Q R st a w μ fj h u o;have O:∀{k B C m},SD E B0 X A w0 nt k B C m->Oz E Q.n (E.gr (1000+i)) k->R .normal B C:=by
   intro k B C m hs K;cases W:E.gr (1000+i)with
   |nil=>rw[W]at K;exact u.1 k B C m hs K
   |cons g Y=>
    rw[W]at K;obtain⟨F,G,J,f9⟩:=XK _ hs K;exact u.1 F B C G J f9
  refine wp_block (Z I ⟨Q.n,λj k=>if j=i then Oz E Q.n (E.gr (1000+i)) k else Q.x j k,Q.r⟩ _ st a w μ Gh h ⟨λk B C m hs H=>u.1 k B C m hs H,λj k B C m hs H=> ?_,λk B C m hs H=>u.2.2 k B C m hs H⟩ o);show (if j=i then R .normal B C else R (.exit j) B C);split
  .rename_i e;exact O hs (by simpa[e]using H)
  .rename_i e;replace H:Q.x j k:=by simpa[e]using H
   exact u.2.1 j k B C m hs H
 |loop b Z=>
  intro I Q R st a w μ fj h u o;simp only[g1c]at o;split at o;rotate_left
  .exact o.elim
  rename_i v hv;split at o
  .rename_i n H;have key:∀(n:Nat) (st:St) (a:Act) (w:World) (μ:Mu),SD E B0 X A w0 nt st a w μ->c32 (λQ st=>EZ E nt I b Q st) Q n st->LW E.P b R a w:=by
    intro n;induction n with
    |zero=>intro st a w μ _ h;exact h.elim
    |succ n ihn=>
     intro st a w μ hs o;refine LW.once ?_;exact Z I ⟨c32 (λQ st=>EZ E nt I b Q st) Q n,Q.x,Q.r⟩ _ st a w μ Gh hs ⟨λF M N G J H=>ihn F M N G J H,λi F M N G J H=>u.2.1 i F M N G J H,λF M N G J H=>u.2.2 F M N G J H⟩ o
   exact(key n st a w μ h o).loop
  obtain⟨z,hz,n8,hround'⟩:=o;have nr:∀z,v.ok z->ancB E (v.st z)=true/\EZ E nt ((v.sub z).getD I) b ⟨λk=>∃U,v.ok U/\v.μ U<v.μ z/\Sx k (v.st U),Q.x,Q.r⟩ (v.st z):=by
   intro z hz;have:=hround' z hz;split at this
   .rename_i e;exact⟨e,this⟩
   .exact this.elim
  obtain⟨μ0,h0⟩:=d0q v.nl h;obtain⟨m,h'⟩:=b6r h0 n8 (nr z hz).1;refine c9r (λn B C=>∃z L,v.ok z/\v.μ z=n/\SD E B0 X A w0 nt (v.st z) B C L) (λn B C hJ=> ?_) (v.μ z) a w ⟨z,m,hz,rfl,h'⟩;obtain⟨U,L,ry,rfl,hs⟩:=hJ;refine Z ((v.sub U).getD I) ⟨λk=>∃V,v.ok V/\v.μ V<v.μ U/\Sx k (v.st V),Q.x,Q.r⟩ _ (v.st U) B C L Gh hs ⟨λF M N G J H=> ?_,λi F M N G J H=>u.2.1 i F M N G J H,λF M N G J H=>u.2.2 F M N G J H⟩ (nr U ry).2;obtain⟨V,Q0,b6,se⟩:=H;obtain⟨μ3,h3⟩:=b6r J se (nr V Q0).1;exact⟨v.μ V,b6,V,μ3,Q0,rfl,h3⟩
 |exit i=>intro I Q R st a w μ _ h u o;exact wp_exit (u.2.1 i st a w μ h o)
 |ret=>intro I Q R st a w μ _ h u o;exact wp_ret (u.2.2 st a w μ h o)
 |rangeFunc f p x y _ _=>intro I Q R st a w μ _ h u o;exact o.elim
 |scope b Z=>
  intro I Q R st a w μ fj h u o;exact wp_scope_straight (Z I Q _ st a w μ Gh h ⟨u.1,u.2.1,u.2.2⟩ o)
 |label l=>intro I Q R st a w μ _ h u o;exact wp_label (u.1 st a w μ h o)
 |goto l=>intro I Q R st a w μ _ h u o;exact o.elim
 |refuse s=>intro I Q R st a w μ _ h u o;exact o.elim
end
end Go.Proofs.YtaihldljnlgnoaaGreatDoor.V
