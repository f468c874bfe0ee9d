/-
  Parts of the proof: V16 W1 W2 W3 W4 G1 O1 V17. Conditions: none.
-/
import Derived.Test.YtaihldljnlgnoaaGreatDoorScc3
set_option maxRecDepth 100000
set_option maxHeartbeats 40000000
namespace Go.Proofs.YtaihldljnlgnoaaGreatDoor.V
open Go
def FB(o:Oper)(j:Nat):Bool:=o.after.toList.any λe=>Region.binds .any e&&e.on==j
def b3i(ops:Array Oper):Nat->Option (Nat×Bool)->List Nat
 |0,_=>[]
 |_,none=>[]
 |n+1,some (j,_)=>match ops[j]? with
  |some o=>match o.dst with
   |some d=>d::b3i ops n o.guard
   |none=>b3i ops n o.guard
  |none=>[]
def Nq(ops:Array Oper)(o:Oper):List Nat:=(o.op.operands.toList.filterMap λx=>match x with|.tmp t=>some t|_=>none)++b3i ops 6 o.guard
def Rk(ks:List Nat)(o:Oper):Nat:=
 if o.after.toList.any λe=>Region.binds .any e&&ks.getD e.on 0==2 then 2 else match o.op with
 |.store _ _ _=>1
 |.call {callee:=.builtin .append,..}=>2
 |.mapUpdate _ _ _ _|.insert _ _ _ _=>2
 |.call {callee:=.builtin .delete,..}|.call {callee:=.builtin .copy,..}|.call {callee:=.builtin .clear,..}=>2
 |_=>0
def reach1(o:Oper)(a:List Nat):Nat:=o.after.toList.foldl (λm e=>if Region.binds .any e then m|||1 <<< e.on|||a.getD e.on 0 else m) 0
def b9s:List Oper->List Nat->List Nat
 | [],a=>a
 |o::l,a=>b9s l (a++[reach1 o a])
def d65(ops:Array Oper):List Nat:=b9s ops.toList []
inductive Reach (ops:Array Oper):Nat->Nat->Prop
 |one {i j:Nat} {o:Oper} (h:ops[i]?=some o) (hw:FB o j=true):Reach ops i j
 |more {i j k:Nat} {o:Oper} (h:ops[i]?=some o) (hw:FB o k=true) (hr:Reach ops k j):Reach ops i j
theorem c4r(l:List Edge)(b:List Nat):∀(m j:Nat),(l.foldl (λm e=>if Region.binds .any e then m|||1 <<< e.on|||b.getD e.on 0 else m) m).testBit j=true->m.testBit j=true\/∃e∈l,Region.binds .any e=true/\(e.on=j\/(b.getD e.on 0).testBit j=true):=by
 induction l with
 |nil=>intro m j h;exact .inl h
 |cons e l c=>
  intro m j h;simp only[M1]at h;rcases c _ j h with h|⟨d,f,a⟩
  .split at h
   .rename_i a;simp only[Nat.testBit_or,K1]at h;rcases h with(h|h)|h
    .exact .inl h
    .refine .inr ⟨e,Dx,a,.inl ?_⟩;rw[Nat.testBit_shiftLeft]at h;simp only[Ij]at h;have:=h.2;match hk:j-e.on with
     |0=>omega
     |n+1=>
      rw[hk,Nat.testBit_succ]at this;simp at this
    .exact .inr ⟨e,Dx,a,.inr h⟩
   .exact .inl h
  .exact .inr ⟨d,by simp[f],a⟩
theorem c1p(ops:Array Oper):∀(l:List Oper) (a:List Nat),(∀k,l[k]?=ops[a.length+k]?)->(∀i j,i<a.length->(a.getD i 0).testBit j=true->Reach ops i j)->∀i j,((b9s l a).getD i 0).testBit j=true->Reach ops i j:=by
 intro l;induction l with
 |nil=>
  intro a _ h i j b;by_cases d:i<a.length
  .exact h i j d b
  .rw[b9s,Ix,L9 Dv]at b;simp at b
 |cons o l q=>
  intro a f h;refine q _ (λk=> ?_) (λi j d b=> ?_)
  .have:=f (k+1);simp only[La]at this;rw[this,Jx];congr 1;simp only[Kh,Mi];omega
  .by_cases g:i<a.length
   .rw[Ix,Jc g,<-Ix]at b;exact h i j g b
   .have r:i=a.length:=by simp at d;omega
    subst r;rw[Ix,Jm (J9 _)]at b;simp only[Ks,Mp,Kn]at b;have m:ops[a.length]?=some o:=by have:=f 0;simpa using this.symm
    rcases c4r _ _ _ _ b with s|⟨e,t,u,c⟩
    .simp at s
    .have n:FB o e.on=true:=by
      simp only[FB,Jj,Is];exact⟨e,t,u,rfl⟩
     rcases c with rfl|c
     .exact .one m n
     .by_cases v:e.on<a.length
      .exact .more m n (h _ _ v c)
      .rw[Ix,L9 Dv]at c;simp at c
theorem b0t{ops:Array Oper}{i j:Nat}(h:((d65 ops).getD i 0).testBit j=true):Reach ops i j:=
 c1p ops ops.toList [] (λk=>Dx) (λi j a=>by simp at a) i j h
def b2p(ks:List Nat)(o:Oper):Nat:=
 if Rk ks o==2 then 2 else match o.op with
 |.call {callee:=.value _,..}=>2
 |_=>Rk ks o
def d6a(o:Oper):Bool:=match o.op with
 |.call {callee:=.value (.tmp _),..}=>true
 |_=>false
def b2y(ks:List Nat)(o:Oper):Nat:=
 if Rk ks o==2 then 2 else match d6a o with
 |true=>1
 |false=>if o.after.toList.any λe=>Region.binds .any e&&ks.getD e.on 0==1 then(match o.op with
  |.store _ _ _=>1
  |_=>2)else Rk ks o
def f3s(ops:Array Oper)(o:Oper):Bool:=match o.op with
 |.call {callee:=.builtin .append,args:=⟨.tmp t::_⟩,..}=>ops.toList.any λy=>match y.op with
  |.buildSlice _ 0 _=>y.dst==some t
  |_=>false
 |_=>false
def b38(ops:Array Oper)(ks:List Nat)(o:Oper):Nat:=
 if o.after.toList.any λe=>Region.binds .any e&&ks.getD e.on 0==2 then 2 else match f3s ops o with
 |true=>0
 |false=>Rk ks o
def QL(o:Oper):Option (Nat×Nat):=match o.op,o.guard,o.dst with
 |.move (.tmp s),none,some d=>some (s,d)
 |_,_,_=>none
def d2j(ops:Array Oper)(ks a:List Nat)(x:Oper×Nat):Bool:=match QL x.1 with
 |some (s,d)=>ops.toList.zipIdx.all λy=>y.1.dst !=some s&&(!(Nq ops y.1).contains d||(ks.getD y.2 0==2&&(a.getD y.2 0).testBit x.2))
 |none=>false
def f3d(ops:Array Oper)(ks:List Nat):List Nat:=match ks.all (λk=>k !=2)with
 |true=>ks
 |false=>let a:=d65 ops
  ops.toList.zipIdx.map λx=>if ks.getD x.2 0==0&&(ops.toList.zipIdx.any λy=>ks.getD y.2 0==2&& !(a.getD y.2 0).testBit x.2)&&d2j ops ks a x then 3 else ks.getD x.2 0
def d1h(ops:Array Oper)(ks:List Nat):Bool:=
 let l:=ops.toList.zipIdx
 let a:=d65 ops
 l.all (λx=>x.1.after.toList.all λe=> !Region.binds .any e||decide (e.on<x.2))&&
 Rn (l.filterMap λx=>x.1.dst)&&
 l.all (λx=>ks.getD x.2 0==2||(Nq ops x.1).all λt=>l.all λy=>y.2==x.2||y.1.dst !=some t||(if y.2<x.2&&ks.getD y.2 0==0 then(a.getD x.2 0).testBit y.2 else(a.getD y.2 0).testBit x.2))&&
 l.all (λx=>ks.getD x.2 0 !=1||((x.1.dst==none||d6a x.1)&&x.1.guard.isNone&&l.all λy=> !(decide (y.2<x.2)&&ks.getD y.2 0==1)||FB x.1 y.2))&&
 l.all (λx=>match x.1.guard with|some (j,_)=>FB x.1 j|none=>true)&&
 l.all (λx=>ks.getD x.2 0 !=2||l.all λy=>y.2==x.2||(ks.getD y.2 0==2&&decide (x.2<y.2))||ks.getD y.2 0==3||(a.getD x.2 0).testBit y.2)&&
 l.all (λx=>ks.getD x.2 0 !=3||d2j ops ks a x)
def d5z(b:Nat)(ops:Array Oper):List Nat:=ops.toList.foldl (λa o=>a++[match b with|0=>Rk a o|1=>b2p a o|2=>b2y a o|_=>b38 ops a o]) []
def kinds(b:Nat)(ops:Array Oper):List Nat:=f3d ops (d5z b ops)
def To(b:Nat)(ops:Array Oper):Bool:=d1h ops (kinds b ops)
def JB(b:Nat)(ops:Array Oper)(k:Nat):List (Oper×Nat):=ops.toList.zipIdx.filter λx=>(kinds b ops).getD x.2 0==k
def SS(b:Nat)(ops:Array Oper):List ((Oper×Nat)×List (Oper×Nat)):=(JB b ops 2).map λx=>(x,(JB b ops 3).filter λf=>match f.1.dst with|some d=>(Nq ops x.1).contains d|none=>false)
def MD(b:Nat)(ops:Array Oper):List Nat:=(JB b ops 3).filterMap (·.1.dst)
def NZ(a:List Nat)(ρ:List Entry):List Entry:=ρ.filter λe=>a.contains e.slot
def SV.pureA:SV->Bool
 |.agg a=>a.all SV.pure
 |s=>s.pure
theorem d0a{w:World}{H H':Nat->Prop}{μ μ':Mu}(c:∀b,H' b->H b){s:SV}{v:Value}(h:D w H μ s v)(a:s.pureA=true):D w H' μ' s v:=by
 unfold SV.pureA at a;split at a
 .cases h with
  |agg d e f=>exact .agg d e λi s v hs g=>GS c (f i s v hs g) (Ja.1 a s (J6 hs))
 .exact GS c h a
def bornB(E:Env)(o:Oper):Bool:=match o.op with
 |.buildSlice _ _ _=>match o.dst with
  |some d=>E.fz d
  |none=>false
 |_=>false
def opdP(ρ:Operand->Option SV)(x:Operand):Option SV:=(ρ x).bind λs=>if s.pureA=true then some s else none
def c77(P:Program)(ρ:Operand->Option SV)(a:Op):Option (Prop×SV):=match Wj P [] (opdP ρ) a with
 |some (p,_,.row _ b n f c)=>some (p,.sl b n f c)
 |_=>none
theorem b87{E:Env}{B0:Nat}{X A:Nat->Prop}{a:Act}{w:World}{μ:Mu}{own:List Blk}(u:Own B0 X A w μ own){ρ:Operand->Option SV}(m:∀(x:Operand) (s:SV),ρ x=some s->D w (held A μ) μ s (a.eval x)){o:Oper}{i:Prop}{s:SV}
 (l:c77 E.P ρ o.op=some (i,s)) (v:i):∃r j,(execOp a.eval o).run E.P w=.ok (.value r) j/\Fr w.heap.size (λ_=>False) w j/\D j (held A μ) μ s r:=by
 unfold c77 at l;split at l;rotate_left
 .cases l
 rename_i p y T B n f c d;cases l;have C:Own w.heap.size (λ_=>False) (held A μ) w (λ_=>none) [.row T B n f c]:=by
  refine⟨λk x h=>E8,λk k' x x' b h=>E8,λk x b h=>E8,λb e=> ?_⟩;rcases e with e|⟨k,x,g,hx⟩
  .exact u.bnd b e
  .exact(u.rng k x b g hx).1
 obtain⟨r,j,μ',F,q,h3,G⟩:=b6v (E:=E) (own:=[]) C (J9 _) rfl (ρ:=opdP ρ) (λx s hs=>by
  unfold opdP at hs;simp only[J8]at hs;obtain⟨s1,H,t⟩:=hs;split at t
  .rename_i I;cases t;refine d0a (λb e=> ?_) (m x _ H) I;rcases e with e|⟨k,x,g,_⟩
   .exact e
   .cases g
  .cases t) d v rfl
 refine⟨r,j,F,q.fr,?_⟩;have J:∃k,y=.osl k/\k=0:=by
  unfold Wj at d;split at d<;>(try simp only[J8,J7]at d)
  .obtain⟨z,_,d⟩:=d;split at d<;>cases d
  .obtain⟨_,_,_,_,d⟩:=d;split at d<;>cases d
  .obtain⟨_,_,_,_,d⟩:=d;cases d;exact⟨0,rfl,rfl⟩
  .obtain⟨_,_,_,_,_,_,_,_,d⟩:=d;split at d<;>cases d
   exact⟨0,rfl,rfl⟩
  .obtain⟨_,_,_,_,_,_,d⟩:=d;split at d
   .split at d<;>cases d
    exact⟨0,rfl,rfl⟩
   .cases d
  .cases d
 obtain⟨k,rfl,rfl⟩:=J;cases G with
 |osl g=>
  obtain⟨bl,e,K⟩:=q.own.blk 0 _ g;cases e;exact d1p (λb e=>.inl e) (λb e=>(q.own.rng 0 _ b g e).2.1) K
def Qk(E:Env)(nt:Nat)(ops:Array Oper)(ρ:List Entry)(own:List Blk)(o:Oper):Option (Prop×Option Entry×Option Blk):=
 if !JS nt o.dst then none else
 match o.guard with
 |some (j,p)=>match o.dst,(ops[j]?).bind (·.dst)with
  |some d,some g=>if g<nt/\g≠d then(Wm ρ 5 g p).bind λc=>match bornB E o with
   |true=>(c77 E.P (CK E ρ (some (g,p))) o.op).map λr=>(c->r.1,some ⟨d,some (g,p),r.2⟩,none)
   |false=>(Rc E ⟨ρ,own⟩ (some (g,p)) o.op).map λr=>(c->r.1,some ⟨d,some (g,p),r.2⟩,none)
   else none
  |_,_=>none
 |none=>match bornB E o with
  |true=>(c77 E.P (CK E ρ none) o.op).map λr=>(r.1,o.dst.map (λd=>⟨d,none,r.2⟩),none)
  |false=>match o.op with
   |.store _ _ _=>none
   |.alloc _|.box _ _|.buildSlice _ _ _|.makeSlice _ _ _=>(Wj E.P own (CK E ρ none) o.op).map λr=>(r.1,o.dst.map (λd=>⟨d,none,r.2.1⟩),some r.2.2)
   |.makeMap T r=>(c8z E (CK E ρ none) T r).map λb=>(True,o.dst.map (λd=>⟨d,none,.omp own.length⟩),some b)
   |a=>match d6p E own (CK E ρ none) a with
    |some r=>some (r.1,o.dst.map (λd=>⟨d,none,r.2.1⟩),some r.2.2)
    |none=>match d28 E own (CK E ρ none) a with
     |some r=>some (r.1,o.dst.map (λd=>⟨d,none,r.2.1⟩),some r.2.2)
     |none=>(Rc E ⟨ρ,own⟩ none a).map λr=>(r.1,o.dst.map (λd=>⟨d,none,r.2⟩),none)
def PM(w:World)(H:Nat->Prop)(μ:Mu)(tmps:Array Value):Option Entry->Prop
 |none=>True
 |some e=>CZ w H μ tmps e
section
variable{E:Env}{B0:Nat}{X A:Nat->Prop}{nt:Nat}{a:Act}{w:World}{μ:Mu}
theorem c3y(hE:EnvOK E)(hC:GR E){ρ:List Entry}{own y:List Blk}(F:Own B0 X A w μ y)(S:B0<=w.heap.size)(bf:∀(k:Nat) (bl:Blk),own[k]?=some bl->y[k]?=some bl)(G:∀g s,E.glob g=some s->s.pure=true/\D w (held A μ) μ s (.pointer (some ⟨g,0,none⟩)))
 (C:EP w (held A μ) μ a.tmps ρ) (bn:a.tmps.size=nt) {ops:Array Oper} {o:Oper} {U:Prop} {out:Option Entry} {bl:Option Blk} (m:Qk E nt ops ρ own o=some (U,out,bl)) (I:U)
 (W:∀b,bl=some b->μ own.length=none/\y[own.length]?=some b) {K:Act->World->Prop} {Q:Exit->Act->World->Prop}
 (hK:∀v t l,After B0 X A w t μ l y->(∀j,(bl.isSome=true->j≠own.length)->l j=μ j)->PM t (held A l) l (a.put o.dst v).tmps out->K (a.put o.dst v) t):
 (out.map (·.slot)=o.dst\/out=none/\o.dst=none)/\if Region.wanted o (yielded ops a.tmps)then o.wp E.P a w K Q else K (a.put o.dst undef) w:=by
 unfold Qk at m;split at m
 .cases m
 rename_i gb;have hd:JS nt o.dst=true:=by simpa using gb
 have calls:∀{t:World},Fr w.heap.size (λ_=>False) w t->After B0 X A w t μ μ y:=λz=>
  ⟨F.calls z,⟨z.os,z.tape,z.output,z.drawn,z.size,λi hi _=>z.block i (K0 hi S) (λh=>h)⟩,z.keeps⟩
 split at m
 .rename_i j p kq;split at m;rotate_left
  .cases m
  rename_i d g J Pe;split at m;rotate_left
  .cases m
  rename_i b6;obtain⟨b6,b9⟩:=b6;simp only[J8]at m;obtain⟨c,Y,m⟩:=m;have R:d<a.tmps.size:=by rw[bn];simpa[JS,J]using hd
  have hw:=b83 (a:=a) kq Pe (by rw[bn];exact b6);have no:∀s,¬a.tmps.getD g undef=.bool p->PM w (held A μ) μ (a.put o.dst undef).tmps (some ⟨d,some (g,p),s⟩):=λs hb=>by rw[J];unfold PM CZ Act.put;simp only;rw[NJ R,NJ R,Iz rfl,J3 b9];exact⟨λhh=>absurd hh hb,λ_=>rfl⟩
  have V:∀{s:SV} {v:Value} {t:World},a.tmps.getD g undef=.bool p->D t (held A μ) μ s v->PM t (held A μ) μ (a.put o.dst v).tmps (some ⟨d,some (g,p),s⟩):=λhb x=>by rw[J];unfold PM CZ Act.put;simp only;rw[NJ R,NJ R,Iz rfl,J3 b9];exact⟨λ_=>x,λu=>absurd hb u⟩
  split at m
  .simp only[Ic]at m;obtain⟨⟨Z,s⟩,hs,rfl,rfl,rfl⟩:=m;refine⟨.inl (by simp[J]),?_⟩;split
   .rename_i dq;have hb:=hw.1 dq;have ge:=b08 C 5 g p c Y hb;obtain⟨r,t,H,z,x⟩:=b87 (E:=E) F (Qv (λn s u=>(G n s u).2) C (λq b e=>by cases e;exact hb)) hs (I ge);unfold Oper.wp;rw[H];exact hK r t μ (calls z) (λ_ _=>rfl) (V hb x)
   .rename_i dq;exact De
  simp only[Ic]at m;obtain⟨⟨Z,s⟩,hs,rfl,rfl,rfl⟩:=m;refine⟨.inl (by simp[J]),?_⟩;split
  .rename_i dq;have hb:=hw.1 dq;have ge:=b08 C 5 g p c Y hb;exact b22 hE hC F bf G C (g:=some (g,p)) (λq b e=>by cases e;exact hb) hs (I ge) (λv t x z=>hK v t μ (calls z) (λ_ _=>rfl) (V hb x))
  .rename_i dq;exact De
 .rename_i kq;rw[Iz Ev];have put:∀{t:World} {l:Mu} {s:SV} {v:Value},D t (held A l) l s v->PM t (held A l) l (a.put o.dst v).tmps (o.dst.map λd=>⟨d,none,s⟩):=by
   intro t l s v x;cases J:o.dst with
   |none=>exact J5
   |some d=>
    have R:d<a.tmps.size:=by rw[bn];simpa[JS,J]using hd
    simp only[Kb];unfold PM CZ Act.put;simp only;rw[NJ R,Iz rfl];exact x
  have slot:∀s:SV,((o.dst.map λd=>(⟨d,none,s⟩:Entry)).map (·.slot)=o.dst\/(o.dst.map λd=>(⟨d,none,s⟩:Entry))=none/\o.dst=none):=by intro s;cases o.dst<;>simp
  split at m
  .simp only[Ic]at m;obtain⟨⟨Z,s⟩,u,rfl,rfl,rfl⟩:=m;obtain⟨r,t,H,z,x⟩:=b87 (E:=E) F (Qv (λn s u=>(G n s u).2) C (λq b e=>E3)) u I;refine⟨slot s,?_⟩;unfold Oper.wp;rw[H];exact hK r t μ (calls z) (λ_ _=>rfl) (put x)
  split at m
  .cases m
  iterate 4
   .simp only[Ic]at m;obtain⟨⟨Z,s,b⟩,u,rfl,rfl,rfl⟩:=m;obtain⟨L,M⟩:=W b rfl;obtain⟨r,t,l,H,N,B,x⟩:=b6v F S L (Qv (λn s u=>(G n s u).2) C (λq b e=>E3)) u I M;refine⟨slot s,?_⟩;unfold Oper.wp;rw[H];exact hK r t l N (λj O=>B j (O rfl)) (put x)
  .rename_i T r0 cy;simp only[Ic]at m;obtain⟨b,u,rfl,rfl,rfl⟩:=m;obtain⟨L,M⟩:=W b rfl;obtain⟨r,t,l,H,N,B,x⟩:=b1y hE F S L (Qv (λn s u=>(G n s u).2) C (λq b e=>E3)) cy u M;refine⟨slot _,?_⟩;unfold Oper.wp;rw[H];exact hK r t l N (λj O=>B j (O rfl)) (put x)
  .split at m
   .rename_i r u;simp only[Id]at m;obtain⟨rfl,rfl,rfl⟩:=m;obtain⟨L,M⟩:=W _ rfl;obtain⟨f,vals,bp,Y⟩:=c9y hC F S L G (Qv (λn s u=>(G n s u).2) C (λq b e=>E3)) u I M;refine⟨slot _,?_⟩;unfold Oper.wp;rw[bp];refine Y.mono ?_;rintro e t ⟨v,l,rfl,N,B,x⟩;exact hK v t l N (λj O=>B j (O rfl)) (put x)
   split at m
   .rename_i r u;simp only[Id]at m;obtain⟨rfl,rfl,rfl⟩:=m;obtain⟨L,M⟩:=W _ rfl;obtain⟨v,t,l,H,N,B,x⟩:=d08 F bf S L (Qv (λn s u=>(G n s u).2) C (λq b e=>E3)) u I M;refine⟨slot _,?_⟩;unfold Oper.wp;rw[H];exact hK v t l N (λj O=>B j (O rfl)) (put x)
   .simp only[Ic]at m;obtain⟨⟨Z,s⟩,hs,rfl,rfl,rfl⟩:=m;refine⟨slot s,?_⟩;exact b22 hE hC F bf G C (g:=none) (λq b e=>E3) hs I (λv t x z=>hK v t μ (calls z) (λ_ _=>rfl) (put x))
end
structure PI where
 o:Oper
 i:Nat
 own:List Blk
 out:Option Entry
 al:Option Blk
def Oh(a:List Nat)(e:Entry):Entry:=match e.guard with
 |some (g,_)=>if a.contains g then {e with guard:=none,sv:=.any}else e
 |none=>e
def QO(out:Option Entry)(a:List Entry):List Entry:=match out with
 |some e=>e::a
 |none=>a
def fO(o:Option Entry)(K:Option Entry->Prop):Prop:=match o with
 |none=>K none
 |some ⟨n,g,s⟩=>fG g λg=>s.f2 λs=>K (some ⟨n,g,s⟩)
theorem fO_eq(o:Option Entry)(K:Option Entry->Prop):fO o K=K o:=by
 match o with
 |none=>rfl
 |some ⟨n,g,s⟩=>simp only[fO,d9h,SV.f2_eq]
def fA(own:List Blk)(c:Option Blk)(K:Option Blk->List Blk->Prop):Prop:=match c with
 |none=>K none own
 |some b=>fB (own++[b]) λa=>K (some b) a
theorem fA_eq(own:List Blk)(a:Option Blk)(K:Option Blk->List Blk->Prop):fA own a K=K a (own++a.toList):=by
 cases a
 .simp[fA]
 .simp[fA,VL]
def parK(E:Env)(d:Nat)(ops:Array Oper)(ρ0:List Entry)(K:List PI->List Entry->List Blk->Prop):List (Oper×Nat)->List PI->List Entry->List Blk->Prop
 | [],done,b,own=>K done b own
 |(o,i)::r,done,b,own=>match Qk E d ops (NZ (Nq ops o) (b++ρ0)) own o with
  |some (p,out,c)=>KR p/\fO out λout=>fA own c λc a=>parK E d ops ρ0 K r (⟨o,i,own,out,c⟩::done) (QO out b) a
  |none=>False
def UW(ps:List PI)(i:Nat):List Entry:=(ps.filter λq=>decide (q.i<i)).filterMap (·.out)
def Uv(E:Env)(a:Nat)(ops:Array Oper)(ρ0:List Entry)(ps:List PI)(sd:List Oper)(own:List Blk):List PI->Prop
 | []=>True
 |q::r=>if sd.any (λs=>FB s q.i)then Uv E a ops ρ0 ps sd own r else match Qk E a ops (NZ (Nq ops q.o) (UW ps q.i++ρ0)) own q.o with
  |some (p,out,none)=>KR p/\Qb out q.out/\Uv E a ops ρ0 ps sd own r
  |_=>False
def c7i(E:Env)(b nb:Nat)(ρ:List Entry)(own:List Blk)(o:Oper):Option (Prop×List Blk×Option Entry):=match o.op with
 |.store T p x=>(CK E ρ none p).bind λc=>(CK E ρ none x).bind λe=>(Ta E.P own T c e).bind λr=>match o.dst with
  |none=>some (r.1,r.2,none)
  |some _=>none
 |_=>match b92 E own (CK E ρ none) o.op with
  |some (p,s,a,[])=>match Nat.beq own.length nb&&Nat.beq a.length nb&&JS b o.dst with
   |true=>some (p,a,o.dst.map λd=>⟨d,none,s⟩)
   |false=>none
  |_=>none
def c07(E:Env)(b nb:Nat)(ops:Array Oper)(ρ0:List Entry)(ps:List PI)(K:List Entry->List Blk->Prop):List (Oper×Nat)->List Oper->List Entry->List Blk->Prop
 | [],_,c,own=>K c own
 |(o,i)::r,d,c,own=>match c7i E b nb (NZ (Nq ops o) (UW ps i++ρ0)) own o with
  |some (p,a,out)=>KR p/\fO out λout=>fB a λa=>Uv E b ops ρ0 ps (o::d) a ps/\c07 E b nb ops ρ0 ps K r (o::d) (QO out c) a
  |none=>False
def Qs(a:List Nat)(ρ:List Entry):List Entry:=(ρ.filter λe=> !a.contains e.slot).map (Oh a)
def RR(E:Env)(c:Nat)(b:Nat)(ops:Array Oper)(d:List Nat)(K:St->Prop):List ((Oper×Nat)×List (Oper×Nat))->St->Prop
 | [],a=>Oe E b ops K ((JB c ops 3).map (·.1)) a
 |g::r,a=>Oe E b ops (λa=>St.force ⟨Qs d a.ρ,a.own⟩ (RR E c b ops d K r)) (g.2.map (·.1)++[g.1.1]) a
def d7n(E:Env)(c:Nat)(a:Nat)(ops:Array Oper)(K:St->Prop)(st:St):Prop:=match MD c ops with
 | []=>Oe E a ops K ((JB c ops 2).map (·.1)) st
 |d::b=>St.force ⟨Qs (d::b) st.ρ,st.own⟩ (RR E c a ops (d::b) K (SS c ops))
def kb(c:Bool)(ops:Array Oper):Nat:=match c with
 |true=>match To 1 ops with
  |true=>1
  |false=>match To 2 ops with
   |true=>2
   |false=>0
 |false=>match ops.toList.any (f3s ops)with
  |true=>match To 0 ops with
   |true=>0
   |false=>3
  |false=>0
def d85(E:Env)(b:Nat)(ops:Array Oper)(K:St->Prop)(st:St):Prop:=Pg (kb E.c2 ops) λc=>
 let a:=(st.ρ.filter λe=> !(MD c ops).contains e.slot).map (Oh (ops.toList.filterMap (·.dst)))
 fE a λa=>parK E b ops a (λd f own=>c07 E b st.own.length ops a d (λg own=>d7n E c b ops K ⟨g++(f++a),own⟩) (JB c ops 1) [] [] own) (JB c ops 0) [] [] st.own
def SF(ps:List PI)(ρ0:List Entry)(i:Nat)(ρ:List Entry):Prop:=
 ∀t e,CJ t ρ=some e->(∃q∈ps,q.i<i/\q.out=some e)\/(CJ t ρ0=some e/\∀q∈ps,q.i<i->∀a,q.out=some a->a.slot≠t)
theorem b4y{t:Nat}:∀(l r:List Entry),CJ t (l++r)=match CJ t l with|some e=>some e|none=>CJ t r
 | [],r=>rfl
 |x::l,r=>by
  simp only[M5,CJ];split
  .rfl
  .exact b4y l r
theorem b2w{t:Nat}:∀{l:List Entry},CJ t l=none↔∀e∈l,e.slot≠t
 | []=>by simp[CJ]
 |x::l=>by
  simp only[CJ,Jd,forall_eq_or_imp];split
  .rename_i h;simp[h]
  .rename_i h;rw[b2w];simp[h]
theorem Nx{t:Nat}{e:Entry}:∀{l:List Entry},CJ t l=some e->e∈l
 | [],h=>by simp[CJ]at h
 |x::l,h=>by
  simp only[CJ]at h;split at h
  .cases h;simp
  .exact Jz _ (Nx h)
theorem b61{ps:List PI}{ρ0 b:List Entry}{i:Nat}(d:∀e∈b,∃q∈ps,q.i<i/\q.out=some e)(f:∀q∈ps,q.i<i->∀e,q.out=some e->e∈b):SF ps ρ0 i (b++ρ0):=by
 intro t e a;rw[b4y]at a;split at a
 .rename_i x hx;cases a;exact .inl (d _ (Nx hx))
 .rename_i g;exact .inr ⟨a,λq h j c k=>b2w.1 g c (f q h j c k)⟩
theorem b1v{ps:List PI}{ρ0:List Entry}{i:Nat}:SF ps ρ0 i (UW ps i++ρ0):=by
 refine b61 (λe a=> ?_) (λq b c e a=> ?_)
 .simp only[UW,Me,Kf,Jb]at a;obtain⟨q,⟨b,c⟩,d⟩:=a;exact⟨q,b,c,d⟩
 .simp only[UW,Me,Kf,Jb];exact⟨q,⟨b,c⟩,a⟩
structure ParOK (E:Env) (nt:Nat) (ops:Array Oper) (ρ0:List Entry) (base own0:List Blk) (ps:List PI):Prop where
 step:∀q∈ps,∃ρ p,SF ps ρ0 q.i ρ/\Qk E nt ops (NZ (Nq ops q.o) ρ) q.own q.o=some (p,q.out,q.al)/\p
 sub:∀q∈ps,(∀(k:Nat) (bl:Blk),q.own[k]?=some bl->own0[k]?=some bl)/\∀b,q.al=some b->own0[q.own.length]?=some b
 low:∀q∈ps,base.length<=q.own.length
 one:∀q∈ps,∀q'∈ps,q.al.isSome=true->q'.al.isSome=true->q.own.length=q'.own.length->q.i=q'.i
 base:∀(k:Nat) (bl:Blk),base[k]?=some bl->own0[k]?=some bl
 top:∀q∈ps,q.al.isSome=true->q.own.length<own0.length
theorem g1j{E:Env}{G:Nat}{ops:Array Oper}{ρ0:List Entry}{base:List Blk}{K:List PI->List Entry->List Blk->Prop}:∀(l:List (Oper×Nat)) (done:List PI) (m:List Entry) (own:List Blk),parK E G ops ρ0 K l done m own->
 ParOK E G ops ρ0 base own done->(∀e∈m,∃q∈done,q.out=some e)->(∀q∈done,∀e,q.out=some e->e∈m)->(∀q∈done,∀x∈l,q.i<x.2)->l.Pairwise (λx y=>x.2<y.2)->base.length<=own.length->(∀q∈done,∀d∈done,q.i=d.i->q=d)->
 ∃n s f,ParOK E G ops ρ0 base f n/\(∀e,e∈s↔∃q∈n,q.out=some e)/\K n s f/\(∀q,q∈n->q∈done\/(q.o,q.i)∈l)/\(∀x∈l,∃q∈n,q.o=x.1/\q.i=x.2)/\(∀q∈done,q∈n)/\base.length<=f.length/\∀q∈n,∀d∈n,q.i=d.i->q=d:=by
 intro l;induction l with
 |nil=>
  intro done m own h r F H _ _ v O;exact⟨done,m,own,r,λe=>⟨F e,λ⟨q,a,w⟩=>H q a e w⟩,h,λq a=>.inl a,λx hx=>by simp at hx,λq a=>a,v,O⟩
 |cons x l ih=>
  intro done m own h r F H W P v O;obtain⟨o,i⟩:=x;simp only[parK]at h;split at h;rotate_left
  .exact h.elim
  rename_i p out g hs;rw[fO_eq,fA_eq]at h;obtain⟨Q,h⟩:=h;replace Q:=Q.out;rw[Ki]at P;have I:∀q∈done,q.i<i:=λq a=>W q a (o,i) Dx;have z:∀q∈done,∀A,SF done ρ0 q.i A->SF (⟨o,i,own,out,g⟩::done) ρ0 q.i A:=by
   intro q a A R t e c;rcases R t e c with⟨d,j,J,S⟩|⟨T,hn⟩
   .exact .inl ⟨d,Jz _ j,J,S⟩
   .refine .inr ⟨T,λd j J e' S=> ?_⟩;rcases Jd.1 j with rfl|j
    .have:=I q a;simp only at J;omega
    .exact hn d j J e' S
  have L:∀(k:Nat) (u:Blk),own[k]?=some u->(own++g.toList)[k]?=some u:=λk u B=>by rw[Jc (J4.1 B).1];exact B
  have fe:SF (⟨o,i,own,out,g⟩::done) ρ0 i (m++ρ0):=by
   refine b61 (λe c=> ?_) (λq a hi e c=> ?_)
   .obtain⟨q,a,w⟩:=F e c;exact⟨q,Jz _ a,I q a,w⟩
   .rcases Jd.1 a with rfl|a
    .simp only at hi;omega
    .exact H q a e c
  have U:ParOK E G ops ρ0 base (own++g.toList) (⟨o,i,own,out,g⟩::done):=by
   refine⟨λq a=> ?_,λq a=> ?_,λq a=> ?_,λq a d j C X c=> ?_,λk u B=>L k u (r.base k u B),λq a C=> ?_⟩
   .rcases Jd.1 a with rfl|a
    .exact⟨m++ρ0,p,fe,hs,Q⟩
    .obtain⟨A,p',M,N,e3⟩:=r.step q a;exact⟨A,p',z q a A M,N,e3⟩
   .rcases Jd.1 a with rfl|a
    .refine⟨L,λb v=> ?_⟩;simp only at v;subst v;simp
    .obtain⟨s1,s2⟩:=r.sub q a;exact⟨λk u B=>L k u (s1 k u B),λb v=>L _ _ (s2 b v)⟩
   .rcases Jd.1 a with rfl|a
    .exact v
    .exact r.low q a
   .rcases Jd.1 a with rfl|a<;>rcases Jd.1 j with rfl|j
    .rfl
    .have:=r.top d j X;simp only at c;omega
    .have:=r.top q a C;simp only at c;omega
    .exact r.one q a d j C X c
   .rcases Jd.1 a with rfl|a
    .simp only at C⊢;cases g with
     |none=>simp at C
     |some b=>simp
    .have:=r.top q a C;rw[Jx];omega
  have k1:∀e∈QO out m,∃q∈(⟨o,i,own,out,g⟩:PI)::done,q.out=some e:=by
   intro e c;unfold QO at c;split at c
   .rename_i e0;rcases Jd.1 c with rfl|c
    .exact⟨_,My,rfl⟩
    .obtain⟨q,a,w⟩:=F e c;exact⟨q,Jz _ a,w⟩
   .obtain⟨q,a,w⟩:=F e c;exact⟨q,Jz _ a,w⟩
  have k2:∀q∈(⟨o,i,own,out,g⟩:PI)::done,∀e,q.out=some e->e∈QO out m:=by
   intro q a e c;unfold QO;rcases Jd.1 a with rfl|a
   .simp only at c;subst c;simp
   .have:=H q a e c;split
    .exact Jz _ this
    .exact this
  have k3:∀q∈(⟨o,i,own,out,g⟩:PI)::done,∀x∈l,q.i<x.2:=by
   intro q a x hx;rcases Jd.1 a with rfl|a
   .exact P.1 x hx
   .exact W q a x (Jz _ hx)
  have k4:∀q∈(⟨o,i,own,out,g⟩:PI)::done,∀d∈(⟨o,i,own,out,g⟩:PI)::done,q.i=d.i->q=d:=by
   intro q a d j e;rcases Jd.1 a with M|Y<;>rcases Jd.1 j with N|Z
   .rw[M,N]
   .rw[M]at e;have:=I d Z;simp only at e;omega
   .rw[N]at e;have:=I q Y;simp only at e;omega
   .exact O q Y d Z e
  obtain⟨n,s,f,r1,r2,r3,r4,r5,r6,r7,r8⟩:=ih (⟨o,i,own,out,g⟩::done) (QO out m) (own++g.toList) h U k1 k2 k3 P.2 (by rw[Jx];omega) k4;refine⟨n,s,f,r1,r2,r3,λq a=> ?_,λx hx=> ?_,λq a=>r6 q (Jz _ a),r7,r8⟩
  .rcases r4 q a with V|T
   .rcases Jd.1 V with rfl|V
    .exact .inr My
    .exact .inl V
   .exact .inr (Jz _ T)
  .rcases Jd.1 hx with rfl|hx
   .exact⟨⟨o,i,own,out,g⟩,r6 _ My,rfl,rfl⟩
   .exact r5 x hx
structure Draws (b:Nat) (ops:Array Oper):Prop where
 lt:∀(i:Nat) (o:Oper) (j:Nat),ops[i]?=some o->FB o j=true->j<i
 uniq:∀(i:Nat) (o:Oper) (j:Nat) (o':Oper) (d:Nat),ops[i]?=some o->ops[j]?=some o'->o.dst=some d->o'.dst=some d->i=j
 names:∀(i:Nat) (o:Oper) (t j:Nat) (o':Oper),ops[i]?=some o->(kinds b ops).getD i 0≠2->t∈Nq ops o->ops[j]?=some o'->j≠i->o'.dst=some t->if j<i/\(kinds b ops).getD j 0=0 then Reach ops i j else Reach ops j i
 store:∀(i:Nat) (o:Oper),ops[i]?=some o->(kinds b ops).getD i 0=1->o.guard=none/\∀(j:Nat) (o':Oper),ops[j]?=some o'->j<i->(kinds b ops).getD j 0=1->FB o j=true
 guard:∀(i:Nat) (o:Oper) (j:Nat) (p:Bool),ops[i]?=some o->o.guard=some (j,p)->FB o j=true
 last:∀(i:Nat) (o:Oper) (j:Nat) (o':Oper),ops[i]?=some o->(kinds b ops).getD i 0=2->ops[j]?=some o'->j≠i->¬((kinds b ops).getD j 0=2/\i<j)->(kinds b ops).getD j 0≠3->Reach ops i j
 free:∀(i:Nat) (o:Oper),ops[i]?=some o->(kinds b ops).getD i 0=3->∃s d,QL o=some (s,d)/\∀(j:Nat) (o':Oper),ops[j]?=some o'->o'.dst≠some s/\(d∈Nq ops o'->(kinds b ops).getD j 0=2/\Reach ops j i)
theorem OE{ops:Array Oper}{i:Nat}{o:Oper}(h:ops[i]?=some o):(o,i)∈ops.toList.zipIdx:=by rw[List.mk_mem_zipIdx_iff_getElem?];simpa using h
theorem g0k{ops:Array Oper}{i:Nat}{o:Oper}(h:(o,i)∈ops.toList.zipIdx):ops[i]?=some o:=by rw[List.mk_mem_zipIdx_iff_getElem?]at h;simpa using h
theorem b6y:∀{l:List Nat},Rn l=true->l.Nodup
 | [],_=>N8
 |x::r,h=>by simp only[Rn,Iv,N6,L3]at h;exact Kw.2 ⟨h.1,b6y h.2⟩
theorem b8s{l:List (Oper×Nat)}(e:l.Pairwise (λx y=>x.2≠y.2))(h:(l.filterMap λx=>x.1.dst).Nodup):∀x∈l,∀y∈l,∀d,x.1.dst=some d->y.1.dst=some d->x=y:=by
 induction l with
 |nil=>intro x hx;simp at hx
 |cons z l m=>
  rw[Ki]at e;have n:(l.filterMap λx=>x.1.dst).Nodup:=by
   rw[List.filterMap_cons]at h;split at h
   .exact h
   .exact(Kw.1 h).2
  have f:∀y∈l,∀d,z.1.dst=some d->y.1.dst=some d->False:=by intro y c d a b;rw[List.filterMap_cons,a]at h;exact(Kw.1 h).1 (Me.2 ⟨y,c,b⟩)
  intro x hx y c d a b;rcases Jd.1 hx with g|i<;>rcases Jd.1 c with j|k
  .rw[g,j]
  .rw[g]at a;exact(f y k d a b).elim
  .rw[j]at b;exact(f x i d b a).elim
  .exact m e.2 n x i y k d a b
theorem c62(ops:Array Oper):ops.toList.zipIdx.Pairwise (λx y=>x.2<y.2):=by rw[K8];intro i j hi hj dw;simp only[List.getElem_zipIdx];omega
theorem d8z{m:Nat}{ops:Array Oper}(h:To m ops=true):Draws m ops:=by
 unfold To d1h at h;simp only[Jt]at h;obtain⟨⟨⟨⟨⟨⟨u,C⟩,v⟩,w⟩,x⟩,y⟩,z⟩:=h;rw[Ja]at u v w y x z;refine⟨λi o j a A=> ?_,λi o j k d a b f E=> ?_,λi o t j k a c F b n f=> ?_,λi o a c=> ?_,λi o j p a q=> ?_,λi o j k a c b n G r=> ?_,λi o a c=> ?_⟩
 .have:=Ja.1 (u _ (OE a));simp only[FB,Jj,Is]at A;obtain⟨e,H,I,rfl⟩:=A;have:=this e H;rw[I]at this;simpa using this
 .have:=b8s ((c62 ops).imp λh=>Nat.ne_of_lt h) (b6y C) _ (OE a) _ (OE b) d f E;exact Mc Prod.snd this
 .have:=v _ (OE a);simp only[K1,Lr]at this;rcases this with h|h
  .exact absurd h c
  .have:=Ja.1 (Ja.1 h t F) _ (OE b);simp only[K1,Lr,bne_iff_ne,ne_eq]at this;rcases this with(h|h)|h
   .exact absurd h n
   .exact absurd f h
   .by_cases g:j<i/\(kinds m ops).getD j 0=0
    .rw[Iz g];rw[Iz ⟨by simpa using g.1,g.2⟩]at h;exact b0t h
    .rw[J3 g];rw[J3 (λB=>g ⟨by simpa using B.1,B.2⟩)]at h;exact b0t h
 .have:=w _ (OE a);simp only[K1,bne_iff_ne,ne_eq,Is,Option.isNone_iff_eq_none]at this;rcases this with h|⟨⟨_,q⟩,hs⟩
  .exact absurd c h
  .refine⟨q,λj k b J K=> ?_⟩;have:=Ja.1 hs _ (OE b);rw[K1]at this;rcases this with h|h
   .exfalso;rw[Jf J,K]at h;simp at h
   .exact h
 .have:=x _ (OE a);simp only[q]at this;exact this
 .have:=y _ (OE a);simp only[K1,bne_iff_ne,ne_eq]at this;rcases this with h|h
  .exact absurd c h
  .have:=Ja.1 h _ (OE b);simp only[K1,Lr,Ij]at this;rcases this with((h|h)|h)|h
   .exact absurd h n
   .exact absurd h G
   .exact absurd h r
   .exact b0t h
 .have:=z _ (OE a);simp only[K1,bne_iff_ne,ne_eq]at this;rcases this with h|h
  .exact absurd c h
  .unfold d2j at h;split at h
   .rename_i s d L;refine⟨s,d,L,λj k b=> ?_⟩;have:=Ja.1 h _ (OE b);simp only[Is,bne_iff_ne,ne_eq,K1,Bool.not_eq_true',N6,L3]at this;refine⟨this.1,λf=> ?_⟩;rcases this.2 with l|l
    .exact absurd f l
    .exact⟨l.1,b0t l.2⟩
   .cases h
theorem Oi{c:Nat}{ops:Array Oper}{k i:Nat}{o:Oper}:(o,i)∈JB c ops k↔ops[i]?=some o/\(kinds c ops).getD i 0=k:=by unfold JB;rw[Kf];simp only[Lr];exact⟨λ⟨a,b⟩=>⟨g0k a,b⟩,λ⟨a,b⟩=>⟨OE a,b⟩⟩
theorem Pn{o:Oper}{s d:Nat}(h:QL o=some (s,d)):o.dst=some d:=by
 unfold QL at h;split at h
 .cases h;assumption
 .cases h
theorem c1f{o:Oper}{s d:Nat}(h:QL o=some (s,d)):o.op=.move (.tmp s)/\o.guard=none:=by
 unfold QL at h;split at h
 .cases h;exact⟨Dz,Dz⟩
 .cases h
theorem Rw{c:Nat}{ops:Array Oper}{d:Nat}:d∈MD c ops↔∃i o,ops[i]?=some o/\(kinds c ops).getD i 0=3/\o.dst=some d:=by
 unfold MD;rw[Me];constructor
 .rintro⟨⟨o,i⟩,a,b⟩;obtain⟨e,f⟩:=Oi.1 a;exact⟨i,o,e,f,b⟩
 .rintro⟨i,o,a,b,g⟩;exact⟨(o,i),Oi.2 ⟨a,b⟩,g⟩
theorem b24(a:Nat)(ops:Array Oper)(k:Nat):(JB a ops k).Pairwise (λx y=>x.2<y.2):=(c62 ops).filter _
theorem b03{c:List Nat}{t:Nat}{e:Entry}:∀{ρ:List Entry},CJ t (NZ c ρ)=some e->t∈c/\CJ t ρ=some e
 | [],h=>by simp[NZ,CJ]at h
 |x::r,h=>by
  simp only[NZ,List.filter_cons]at h;split at h
  .rename_i a;simp only[CJ]at h⊢;split at h
   .rename_i hs;cases h;exact⟨by rw[<-hs];simpa using a,by rw[Iz hs]⟩
   .rename_i hs;obtain⟨h1,b⟩:=b03 (ρ:=r) h;exact⟨h1,by rw[J3 hs];exact b⟩
  .rename_i a;obtain⟨h1,b⟩:=b03 (ρ:=r) h;refine⟨h1,?_⟩;simp only[CJ];rw[J3 (λhs=>by subst hs;exact a Es)];exact b
theorem TZ{E:Env}{nt:Nat}{ops:Array Oper}{ρ:List Entry}{own:List Blk}{o:Oper}{p:Prop}{out:Option Entry}{l:Option Blk}(a:Qk E nt ops ρ own o=some (p,out,l)):
 out.map (·.slot)=o.dst/\(∀e,out=some e->∀g b,e.guard=some (g,b)->∃j h,o.guard=some (j,h)/\(ops[j]?).bind (·.dst)=some g):=by
 have slot:∀s:SV,(o.dst.map λd=>(⟨d,none,s⟩:Entry)).map (·.slot)=o.dst:=by intro s;cases o.dst<;>simp
 have noguard:∀s:SV,∀e,(o.dst.map λd=>(⟨d,none,s⟩:Entry))=some e->∀g b,e.guard=some (g,b)->∃j h,o.guard=some (j,h)/\(ops[j]?).bind (·.dst)=some g:=by intro s e a g b i;rw[J7]at a;obtain⟨d,_,rfl⟩:=a;cases i
 unfold Qk at a;split at a
 .cases a
 split at a
 .rename_i j f m;split at a;rotate_left
  .cases a
  rename_i d g n q;split at a;rotate_left
  .cases a
  simp only[J8]at a;obtain⟨c,hc,a⟩:=a;split at a;all_goals
   simp only[Ic]at a;obtain⟨⟨p1,s⟩,hs,rfl,rfl,rfl⟩:=a;refine⟨by simp[n],λe a g' b i=> ?_⟩;cases a;cases i;exact⟨j,f,m,q⟩
 .split at a
  .simp only[Ic]at a;obtain⟨⟨f,s⟩,k,rfl,rfl,rfl⟩:=a;exact⟨slot s,noguard s⟩
  split at a
  .cases a
  iterate 4
   .simp only[Ic]at a;obtain⟨⟨f,s,b⟩,k,rfl,rfl,rfl⟩:=a;exact⟨slot s,noguard s⟩
  .simp only[Ic]at a;obtain⟨b,k,rfl,rfl,rfl⟩:=a;exact⟨slot _,noguard _⟩
  .split at a
   .simp only[Id]at a;obtain⟨rfl,rfl,rfl⟩:=a;exact⟨slot _,noguard _⟩
   split at a
   .simp only[Id]at a;obtain⟨rfl,rfl,rfl⟩:=a;exact⟨slot _,noguard _⟩
   .simp only[Ic]at a;obtain⟨⟨f,s⟩,hs,rfl,rfl,rfl⟩:=a;exact⟨slot s,noguard s⟩
theorem b15(a:List Nat)(e:Entry):(Oh a e).slot=e.slot:=by unfold Oh;split<;>(try split)<;>rfl
theorem b64{E:Env}{nt:Nat}{ops:Array Oper}{ρ0:List Entry}{ps:List PI}{sd:List Oper}{own:List Blk}:∀{l:List PI},Uv E nt ops ρ0 ps sd own l->∀q∈l,(∃s∈sd,FB s q.i=true)\/
 ∃p,Qk E nt ops (NZ (Nq ops q.o) (UW ps q.i++ρ0)) own q.o=some (p,q.out,none)/\p
 | [],_,q,a=>by simp at a
 |x::r,h,q,a=>by
  simp only[Uv]at h;split at h
  .rename_i b;rcases Jd.1 a with rfl|a
   .exact .inl (by simpa using b)
   .exact b64 h q a
  .split at h
   .rename_i p out hs;rcases Jd.1 a with rfl|a
    .exact .inr ⟨p,by rw[<-h.2.1.out];exact hs,h.1.out⟩
    .exact b64 h.2.2 q a
   .exact h.elim
theorem b7c{P:Program}{own own':List Blk}{T:TypeId}{p x:SV}{b:Prop}(a:Ta P own T p x=some (b,own')):own'.length=own.length:=by
 unfold Ta at a;simp only[Im]at a;obtain⟨n,hn,us,ke,a⟩:=a;repeat' split at a
 all_goals first|(cases a;simp;done)|cases a
section
variable{E:Env}{B0:Nat}{X A:Nat->Prop}{w0:World}{nt:Nat}{ops:Array Oper}{st:St}{a0:Act}{ρ0:List Entry}{ps:List PI}{es:List Entry}{own0:List Blk}{K:St->Prop}
def Ld(listed:Array Bool)(i:Nat):Prop:=listed.getD i true=true
structure Inv1 (E:Env) (B0:Nat) (X A:Nat->Prop) (w0:World) (nt:Nat) (ops:Array Oper) (st:St) (a0:Act) (ρ0:List Entry) (ps:List PI) (es:List Entry) (own0:List Blk) (K:St->Prop)
 (listed:Array Bool) (a:Act) (w:World) (μ:Mu) (sd:List Oper) (xs:List Entry) (sr:List (Oper×Nat)) (om:List Blk):Prop where
 own:Own B0 X A w μ om
 len:om.length=own0.length
 fr:Fr B0 X w0 w
 base:B0<=w.heap.size
 glo:∀g s,E.glob g=some s->s.pure=true/\D w (held A μ) μ s (.pointer (some ⟨g,0,none⟩))
 dfr:a.defers=[]
 size:a.tmps.size=nt
 sk:c07 E nt st.own.length ops ρ0 ps (λxs own=>d7n E (kb E.c2 ops) nt ops K ⟨xs++(es++ρ0),own⟩) sr sd xs om
 late:om=own0\/Uv E nt ops ρ0 ps sd om ps
 sdL:∀s∈sd,∃i,ops[i]?=some s/\(kinds (kb E.c2 ops) ops).getD i 0=1/\Ld listed i
 xsE:∀e∈xs,e.guard=none/\CZ w (held A μ) μ a.tmps e/\∃s∈sd,s.dst=some e.slot
 xsA:∀s∈sd,∀d,s.dst=some d->∃e∈xs,e.slot=d
 srU:∀x∈sr,ops[x.2]?=some x.1/\(kinds (kb E.c2 ops) ops).getD x.2 0=1/\¬Ld listed x.2
 srA:∀(i:Nat) (o:Oper),ops[i]?=some o->(kinds (kb E.c2 ops) ops).getD i 0=1->¬Ld listed i->(o,i)∈sr
 srP:sr.Pairwise (λx y=>x.2<y.2)
 ent:∀q∈ps,Ld listed q.i->PM w (held A μ) μ a.tmps q.out
 tmp:∀t,(∀q∈ps,Ld listed q.i->q.o.dst≠some t)->t∉MD (kb E.c2 ops) ops->(∀s∈sd,s.dst≠some t)->a.tmps.getD t undef=a0.tmps.getD t undef
 frd:∀(i:Nat) (o:Oper) (s d:Nat),ops[i]?=some o->(kinds (kb E.c2 ops) ops).getD i 0=3->QL o=some (s,d)->Ld listed i->d<nt->a.tmps.getD d undef=a0.tmps.getD s undef
 fresh:∀k,st.own.length<=k->(∀q∈ps,Ld listed q.i->q.al.isSome=true->q.own.length≠k)->μ k=none
 env0:EP w (held A μ) μ a0.tmps ρ0
 closed:∀(i:Nat) (o:Oper) (j:Nat),ops[i]?=some o->Ld listed i->FB o j=true->Ld listed j
 anc:∀k x,E.an k=some x->μ k=some x
 no2:∀(i:Nat) (o:Oper),ops[i]?=some o->(kinds (kb E.c2 ops) ops).getD i 0=2->¬Ld listed i
theorem b13{ops:Array Oper}{listed:Array Bool}(c:∀(i:Nat) (o:Oper) (j:Nat),ops[i]?=some o->Ld listed i->FB o j=true->Ld listed j){i j:Nat}(h:Reach ops i j):Ld listed i->Ld listed j:=by
 induction h with
 |one h a=>exact λb=>c _ _ _ h b a
 |more h a _ d=>exact λb=>d (c _ _ _ h b a)
theorem b0c{ops:Array Oper}{listed:Array Bool}(d:∀(i:Nat) (o:Oper) (j:Nat),ops[i]?=some o->Ld listed i->FB o j=true->Ld listed j){i j:Nat}(h:Reach ops i j){o:Oper}(a:ops[i]?=some o)(c:∀j,FB o j=true->Ld listed j):Ld listed j:=by
 cases h with
 |one h b=>rw[h]at a;cases a;exact c _ b
 |more h b e=>rw[h]at a;cases a;exact b13 d e (c _ b)
structure Fixed (E:Env) (nt:Nat) (ops:Array Oper) (st:St) (ρ0:List Entry) (ps:List PI) (es:List Entry) (own0:List Blk):Prop where
 dr:Draws (kb E.c2 ops) ops
 par:ParOK E nt ops ρ0 st.own own0 ps
 pin:∀q∈ps,ops[q.i]?=some q.o/\(kinds (kb E.c2 ops) ops).getD q.i 0=0
 pall:∀(i:Nat) (o:Oper),ops[i]?=some o->(kinds (kb E.c2 ops) ops).getD i 0=0->∃q∈ps,q.o=o/\q.i=i
 es:∀e,e∈es↔∃q∈ps,q.out=some e
 fno:∀e∈ρ0,e.slot∉MD (kb E.c2 ops) ops
 gno:∀e∈ρ0,∀g b,e.guard=some (g,b)->∀(i:Nat) (o:Oper),ops[i]?=some o->o.dst≠some g
 top:st.own.length<=own0.length
 uni:∀q∈ps,∀q'∈ps,q.i=q'.i->q=q'
variable{listed:Array Bool}{a:Act}{w:World}{μ:Mu}{sd:List Oper}{xs:List Entry}{sr:List (Oper × Nat)}{om:List Blk}
theorem f3w(c:Fixed E nt ops st ρ0 ps es own0)(h:Inv1 E B0 X A w0 nt ops st a0 ρ0 ps es own0 K listed a w μ sd xs sr om){i:Nat}{o:Oper}(r:ops[i]?=some o)(y:(kinds (kb E.c2 ops) ops).getD i 0≠2)(_:(kinds (kb E.c2 ops) ops).getD i 0≠3)(hi:¬Ld listed i)(V:∀j,FB o j=true->Ld listed j)
 {ρ:List Entry} (H:SF ps ρ0 i ρ):EP w (held A μ) μ a.tmps (NZ (Nq ops o) ρ):=by
 intro t e z;obtain⟨B,z⟩:=b03 z;have R:=MY z;rcases H t e z with⟨q,k,C,S⟩|⟨F,W⟩
 .obtain⟨I,p,_,hs,_⟩:=c.par.step q k;have f:q.o.dst=some t:=by
   have:=(TZ hs).1;rw[S]at this;rw[<-this];simp[R]
  obtain⟨J,T⟩:=c.pin q k;have:=c.dr.names i o t q.i q.o r y B J (Nat.ne_of_lt C) f;rw[Iz ⟨C,T⟩]at this;have:=h.ent q k (b0c h.closed this r V);rw[S]at this;exact this
 .have l:=h.env0 t e F;have m:∀u,(∀q∈ps,Ld listed q.i->q.o.dst≠some u)->u∉MD (kb E.c2 ops) ops->(∀s∈sd,s.dst≠some u)->a.tmps.getD u undef=a0.tmps.getD u undef:=h.tmp;have v:a.tmps.getD t undef=a0.tmps.getD t undef:=by
   refine m t (λq k x f=> ?_) (λL=>by
    obtain⟨j,M,N,U,O⟩:=Rw.1 L;obtain⟨s,d,f1,f2⟩:=c.dr.free j M N U;have f:d=t:=by have:=Pn f1;rw[O]at this;exact(K6 this).symm
    subst f;exact y ((f2 i o r).2 B).1) (λs hs f=>by
    obtain⟨j,P,dn,x⟩:=h.sdL s hs;have G:j≠i:=λe=>hi (e▸x);have:=c.dr.names i o t j s r y B P G f;rw[J3 Dv]at this;exact hi (b13 h.closed this x))
   obtain⟨J,T⟩:=c.pin q k;have G:q.i≠i:=λe=>hi (e▸x);rcases Nd G with C|si
   .obtain⟨I,p,_,hs,_⟩:=c.par.step q k;have Q:=(TZ hs).1;rw[f]at Q;rw[J7]at Q;obtain⟨Y,Z,hs'⟩:=Q;exact W q k C Y Z hs'
   .have:=c.dr.names i o t q.i q.o r y B J G f;rw[J3 Dv]at this;exact hi (b13 h.closed this x)
  unfold CZ at l⊢;rw[R]at l⊢;split
  .rename_i n;rw[n]at l;simp only at l;rw[v];exact l
  .rename_i g b n;rw[n]at l;simp only at l;have sg:a.tmps.getD g undef=a0.tmps.getD g undef:=m g (λq k _ f=>c.gno e (Nx F) g b n q.i q.o (c.pin q k).1 f) (λL=>by
    obtain⟨j,M,N,U,O⟩:=Rw.1 L;exact c.gno e (Nx F) g b n j M N O) (λs hs f=>by
    obtain⟨j,P,_,_⟩:=h.sdL s hs;exact c.gno e (Nx F) g b n j s P f)
   rw[v,sg];exact l
end
section
variable{E:Env}{B0:Nat}{X A:Nat->Prop}{w0:World}{nt:Nat}{ops:Array Oper}{st:St}{a0:Act}{ρ0:List Entry}{ps:List PI}{es:List Entry}{own0:List Blk}{K:St->Prop}
variable{listed:Array Bool}{a:Act}{w:World}{μ:Mu}{sd:List Oper}{xs:List Entry}{sr:List (Oper × Nat)}{om:List Blk}
theorem DH{i j:Nat}(hi:i<listed.size):Ld (listed.setIfInBounds i true) j↔j=i\/Ld listed j:=by
 unfold Ld;by_cases e:j=i
 .subst e;simp[hi]
 .simp[e,Lv (Ne.symm e)]
theorem CZ.keep{w w':World}{H H':Nat->Prop}{μ μ':Mu}{tmps:Array Value}{e:Entry}(a:Keeps w w' H H' μ μ')(h:CZ w H μ tmps e):CZ w' H' μ' tmps e:=by
 unfold CZ at h⊢;split at h
 .exact h.keep a
 .exact⟨λb=>(h.1 b).keep a,h.2⟩
theorem PW{d:Option Nat}{v:Value}{t:Nat}(h:d≠some t):(a.put d v).tmps.getD t undef=a.tmps.getD t undef:=by
 cases d with
 |none=>rfl
 |some d=>
  have b:d≠t:=λe=>h (by rw[e]);simp[Act.put,Lv b]
theorem CZ.put{H:Nat->Prop}{e:Entry}{d:Option Nat}{v:Value}(hs:d≠some e.slot)(c:∀g b,e.guard=some (g,b)->d≠some g)(h:CZ w H μ a.tmps e):CZ w H μ (a.put d v).tmps e:=by
 unfold CZ at h⊢;split at h
 .rw[PW hs];exact h
 .rename_i g b f;rw[PW hs,PW (c g b f)];exact h
theorem d7t(hE:EnvOK E)(hC:GR E)(c:Fixed E nt ops st ρ0 ps es own0)(h:Inv1 E B0 X A w0 nt ops st a0 ρ0 ps es own0 K listed a w μ sd xs sr om)(bn:listed.size=ops.size){i:Nat}{o:Oper}(ho:ops[i]?=some o)(hk:(kinds (kb E.c2 ops) ops).getD i 0=0)
 (hi:¬Ld listed i) (hr:∀j,FB o j=true->Ld listed j) {U:Act->World->Prop} {Q:Exit->Act->World->Prop}
 (hK:∀a' M G,Inv1 E B0 X A w0 nt ops st a0 ρ0 ps es own0 K (listed.setIfInBounds i true) a' M G sd xs sr om->U a' M):wpOp E.P ops Q i U a w:=by
 have bj:i<listed.size:=Fh;obtain⟨q,y,rfl,rfl⟩:=c.pall i o ho hk;have ev:∃J f N p,SF ps ρ0 q.i J/\Qk E nt ops (NZ (Nq ops q.o) J) f q.o=some (p,q.out,N)/\p/\(∀(k:Nat) (b:Blk),f[k]?=some b->om[k]?=some b)/\(N=none\/f=q.own/\N=q.al/\om=own0):=by
  rcases h.late with e|hl
  .obtain⟨J,p,h1,V,W⟩:=c.par.step q y;exact⟨J,q.own,q.al,p,h1,V,W,by rw[e];exact(c.par.sub q y).1,.inr ⟨rfl,rfl,e⟩⟩
  .rcases b64 hl q y with⟨s,hs,hw⟩|⟨p,V,W⟩
   .obtain⟨j,hj,_,hL⟩:=h.sdL s hs;exact absurd (h.closed j s q.i hj hL hw) hi
   .exact⟨_,om,none,p,b1v,V,W,λ_ _ h=>h,.inl rfl⟩
 obtain⟨J,f,N,p,Y,hs,hp,bf,d8⟩:=ev;have cx:=f3w c h ho Dv Dv hi hr Y;have ju:=(TZ hs).1;have m:=(c3y hE hC h.own h.base bf h.glo cx h.size hs hp (λb C=>by
  rcases d8 with e|⟨rfl,rfl,rfl⟩
  .rw[e]at C;cases C
  .refine⟨h.fresh _ (c.par.low q y) (λn r hL u I=> ?_),(c.par.sub q y).2 b C⟩;have:=c.par.one n r q y u (by rw[C];rfl) I;exact hi (this▸hL)) (K:=U) (Q:=Q) (λv M G u Z dm=>hK _ M G ?_)).2
 .unfold wpOp;rw[ho];simp only;split
  .rename_i hw;rw[Iz hw]at m;exact .inl m
  .rename_i hw;rw[J3 hw]at m;exact m
 .have F:∀t,q.o.dst≠some t->(a.put q.o.dst v).tmps.getD t undef=a.tmps.getD t undef:=λt O=>PW O;refine⟨u.own,h.len,h.fr.trans u.fr,Kq h.base u.fr.size,NH u.keeps h.glo,by cases q.o.dst<;>exact h.dfr,by cases q.o.dst<;>simp[Act.put,h.size],h.sk,h.late,λs hs=> ?_,λe I=> ?_,h.xsA,λx hx=> ?_,λj o' hj dn R=> ?_,h.srP,
   λn r hL=> ?_,λt O hf z=> ?_,λj o' s d hj dn jh hL H=> ?_,λk dh R=> ?_,h.env0.keep u.keeps,λj o' l hj hL hw=> ?_,λj x hx=>u.keeps.own _ _ (h.anc j x hx),λj o' hj dn hL=> ?_⟩
  .obtain⟨j,hj,dn,hL⟩:=h.sdL s hs;exact Ct
  .obtain⟨e1,e2,s,hs,z⟩:=h.xsE e I;obtain⟨j,hj,dn,_⟩:=h.sdL s hs;refine⟨e1,(CZ.keep u.keeps e2).put (λH=> ?_) (λg b S=>by rw[e1]at S;cases S),s,hs,z⟩;have:=c.dr.uniq _ _ _ _ _ ho hj H z;rw[this]at hk;omega
  .obtain⟨x1,x2,x3⟩:=h.srU x hx;refine⟨x1,x2,λhL=> ?_⟩;rcases(DH bj).1 hL with e|hL
   .rw[e]at x2;omega
   .exact x3 hL
  .exact h.srA j o' hj dn (λhL=>R ((DH bj).2 (.inr hL)))
  .rcases(DH bj).1 hL with e|hL
   .rw[c.uni n r q y e];exact dm
   .have B:=h.ent n r hL;have T:n.i≠q.i:=λe=>hi (e▸hL);obtain⟨ρ',p',_,hs',_⟩:=c.par.step n r;obtain⟨L,sl2⟩:=TZ hs';unfold PM at B⊢;split
    .exact J5
    .rename_i e I;rw[I]at B L;simp only at B;refine(CZ.keep u.keeps B).put (λH=> ?_) (λg b S H=> ?_)
     .have:n.o.dst=some e.slot:=by rw[<-L];rfl
      exact T (c.dr.uniq _ _ _ _ _ (c.pin n r).1 ho this H)
     .obtain⟨j,p2,kq,hj⟩:=sl2 e I g b S;cases ri:ops[j]? with
      |none=>rw[ri]at hj;cases hj
      |some oj=>
       rw[ri]at hj;have mv:=c.dr.uniq _ _ _ _ _ ri ho hj H;have hw:=c.dr.guard _ _ _ _ (c.pin n r).1 kq;exact hi (mv▸h.closed _ _ _ (c.pin n r).1 hL hw)
  .rw[F t (O q y ((DH bj).2 (.inl rfl)))];exact h.tmp t (λn r hL=>O n r ((DH bj).2 (.inr hL))) hf z
  .have T:j≠q.i:=λe=>by rw[e]at dn;omega
   have qk:Ld listed j:=by
    rcases(DH bj).1 hL with e|hL
    .exact absurd e T
    .exact hL
   rw[F d (λdj=>T (c.dr.uniq _ _ _ _ _ hj ho (Pn jh) dj))];exact h.frd j o' s d hj dn jh qk H
  .rw[Z k (λC=> ?_)]
   .exact h.fresh k dh (λn r hL=>R n r ((DH bj).2 (.inr hL)))
   .rcases d8 with e|⟨rfl,rfl,_⟩
    .rw[e]at C;cases C
    .exact λe=>R q y ((DH bj).2 (.inl rfl)) C e.symm
  .rcases(DH bj).1 hL with e|hL
   .subst e;rw[ho]at hj;cases hj;exact(DH bj).2 (.inr (hr l hw))
   .exact Cu
  .rcases(DH bj).1 hL with e|hL
   .subst e;omega
   .exact h.no2 j o' hj dn hL
theorem d07(hC:GR E)(z:Fixed E nt ops st ρ0 ps es own0)(h:Inv1 E B0 X A w0 nt ops st a0 ρ0 ps es own0 K listed a w μ sd xs sr om)(bn:listed.size=ops.size){i:Nat}{o:Oper}(ho:ops[i]?=some o)(J:(kinds (kb E.c2 ops) ops).getD i 0=1)
 (hi:¬Ld listed i) (hr:∀j,FB o j=true->Ld listed j) {Kc:Act->World->Prop} {Q:Exit->Act->World->Prop}
 (hK:∀a' m c sd' xs' sr' om',Inv1 E B0 X A w0 nt ops st a0 ρ0 ps es own0 K (listed.setIfInBounds i true) a' m c sd' xs' sr' om'->Kc a' m):wpOp E.P ops Q i Kc a w:=by
 have bj:i<listed.size:=Fh;obtain⟨L,d9⟩:=z.dr.store i o ho J;have cf:=h.srA i o ho J hi;have G:=h.sk;have M:=h.srP;have Z:=h.srU;have wk:=h.srA;match sr,cf,G,M,Z,wk with
 |(o',i')::r,cf,G,M,Z,wk=>
  rw[Ki]at M;have rj:(o,i)=(o',i'):=by
   rcases Jd.1 cf with e|hm
   .exact e
   .exfalso;have b6:=M.1 _ hm;obtain⟨u1,u2,u3⟩:=Z (o',i') Dx;exact u3 (hr i' (d9 i' o' u1 b6 u2))
  cases rj;simp only[c07]at G;split at G;rotate_left
  .exact G.elim
  rename_i p F out B;rw[fO_eq,VL]at G;obtain⟨hp,I,G⟩:=G;replace hp:=hp.out;have cx:=f3w z h ho Dv Dv hi hr (b1v (ps:=ps) (ρ0:=ρ0) (i:=i));have next:∀(m:World) (c:Mu) (v:Value),Own B0 X A m c F->Fr B0 X w m->Keeps w m (held A μ) (held A c) μ c->(∀k,st.own.length<=k->(∀q∈ps,Ld listed q.i->q.al.isSome=true->q.own.length≠k)->c k=none)->(∀k x,E.an k=some x->c k=some x)->
   F.length=om.length->(out=none/\o.dst=none\/∃d s,o.dst=some d/\out=some ⟨d,none,s⟩/\JS nt o.dst=true/\D m (held A c) c s v)->
   Inv1 E B0 X A w0 nt ops st a0 ρ0 ps es own0 K (listed.setIfInBounds i true) (a.put o.dst v) m c (o::sd) (QO out xs) r F:=by
   intro m c v n1 n2 n3 n4 n5 n6 n7;have jc:∀e,e∈xs->e∈QO out xs:=λe u=>by
    unfold QO;split
    .exact Jz _ u
    .exact u
   have R:∀{e:Entry},e∈xs->o.dst≠some e.slot:=λ{e} u f=>by obtain⟨_,_,s,hs,C⟩:=h.xsE e u;obtain⟨j,hj,_,hL⟩:=h.sdL s hs;exact hi (z.dr.uniq _ _ _ _ _ ho hj f C▸hL)
   refine⟨n1,n6.trans h.len,h.fr.trans n2,Kq h.base n2.size,NH n3 h.glo,by cases o.dst<;>exact h.dfr,by cases o.dst<;>simp[Act.put,h.size],G,.inr I,λs hs=> ?_,λe u=> ?_,λs hs d f=> ?_,λx hx=> ?_,λj o' hj dn N=> ?_,M.2,
    λH O hL=> ?_,λt ht hf C=> ?_,λj o' s d hj dn jh hL f=> ?_,λk dh N=>n4 k dh (λq S hL=>N q S ((DH bj).2 (.inr hL))),h.env0.keep n3,λj o' l hj hL hw=> ?_,n5,λj o' hj dn hL=> ?_⟩
   .rcases Jd.1 hs with rfl|hs
    .exact⟨i,ho,J,(DH bj).2 (.inl rfl)⟩
    .obtain⟨j,hj,dn,hL⟩:=h.sdL s hs;exact Ct
   .have y:e∈xs->e.guard=none/\CZ m (held A c) c (a.put o.dst v).tmps e/\∃s∈o::sd,s.dst=some e.slot:=λu=>by
     obtain⟨e1,e2,s,hs,C⟩:=h.xsE e u;exact⟨e1,(CZ.keep n3 e2).put (R u) (λg b L=>by rw[e1]at L;cases L),s,Jz _ hs,C⟩
    rcases n7 with⟨rfl,_⟩|⟨d,s,f,rfl,hdo,hv⟩
    .exact y u
    .rcases Jd.1 u with rfl|u
     .refine⟨rfl,?_,o,My,f⟩;have b6:d<a.tmps.size:=by rw[h.size];simpa[JS,f]using hdo
      rw[f];unfold CZ Act.put;simp only;rw[NJ b6,Iz rfl];exact hv
     .exact y u
   .rcases Jd.1 hs with rfl|hs
    .rcases n7 with⟨_,h0⟩|⟨d',s',dj,rfl,_,_⟩
     .rw[h0]at f;cases f
     .rw[dj]at f;cases f;exact⟨_,My,rfl⟩
    .obtain⟨e,u,sb⟩:=h.xsA s hs d f;exact⟨e,jc e u,sb⟩
   .obtain⟨u1,u2,u3⟩:=Z x Ef;refine⟨u1,u2,λhL=> ?_⟩;rcases(DH bj).1 hL with e|hL
    .have:=M.1 x hx;simp only at this;omega
    .exact u3 hL
   .have:=wk j o' hj dn (λhL=>N ((DH bj).2 (.inr hL)));rcases Jd.1 this with e|hm
    .cases e;exact absurd ((DH bj).2 (.inl rfl)) N
    .exact hm
   .rcases(DH bj).1 hL with e|hL
    .have:=(z.pin H O).2;rw[e]at this;omega
    .have b9:H.i≠i:=λe=>hi (e▸hL);have y:=h.ent H O hL;obtain⟨ρ',p',_,hs',_⟩:=z.par.step H O;obtain⟨U,sl2⟩:=TZ hs';unfold PM at y⊢;split
     .exact J5
     .rename_i e u;rw[u]at y U;simp only at y;refine(CZ.keep n3 y).put (λf=> ?_) (λg b L f=> ?_)
      .have:H.o.dst=some e.slot:=by rw[<-U];rfl
       exact b9 (z.dr.uniq _ _ _ _ _ (z.pin H O).1 ho this f)
      .obtain⟨j,p2,kq,hj⟩:=sl2 e u g b L;cases ri:ops[j]? with
       |none=>rw[ri]at hj;cases hj
       |some oj=>
        rw[ri]at hj;have mv:=z.dr.uniq _ _ _ _ _ ri ho hj f;have hw:=z.dr.guard _ _ _ _ (z.pin H O).1 kq;exact hi (mv▸h.closed _ _ _ (z.pin H O).1 hL hw)
   .rw[PW (C o My)];exact h.tmp t (λq S hL=>ht q S ((DH bj).2 (.inr hL))) hf (λs hs=>C s (Jz _ hs))
   .have b9:j≠i:=λe=>by rw[e]at dn;omega
    have qk:Ld listed j:=by
     rcases(DH bj).1 hL with e|hL
     .exact absurd e b9
     .exact hL
    rw[PW (λdj=>b9 (z.dr.uniq _ _ _ _ _ hj ho (Pn jh) dj))];exact h.frd j o' s d hj dn jh qk f
   .rcases(DH bj).1 hL with e|hL
    .subst e;rw[ho]at hj;cases hj;exact(DH bj).2 (.inr (hr l hw))
    .exact Cu
   .rcases(DH bj).1 hL with e|hL
    .subst e;omega
    .exact h.no2 j o' hj dn hL
  unfold wpOp;rw[ho];simp only;rw[Iz (by simp[Region.wanted,L])];refine .inl ?_;unfold c7i at B;split at B
  .rename_i T px xx cy;simp only[J8]at B;obtain⟨sp,qi,sx,qb,rr,B,f⟩:=B;split at f;rotate_left
   .cases f
   rename_i tc;simp only[Id]at f;obtain⟨rfl,rfl,rfl⟩:=f;have V:=Qv (E:=E) (a:=a) (g:=none) (λn s N=>(h.glo n s N).2) cx (λq b e=>E3);obtain⟨m,bp,W⟩:=b5u h.own (V _ _ qi) (V _ _ qb) B hp;have hx:(execOp a.eval o).run E.P w=.ok .skip m:=by simp[execOp,cy,bp]
   unfold Oper.wp;rw[hx];exact hK _ m μ _ _ _ _ (next m μ undef W.own W.fr W.keeps h.fresh h.anc (b7c B) (.inl ⟨rfl,tc⟩))
  .split at B;rotate_left
   .cases B
   rename_i p1 s1 own1 Y;split at B;rotate_left
   .cases B
   rename_i du;simp only[Jt]at du;obtain⟨⟨c1,c2⟩,c3⟩:=du;replace c1:=Nat.eq_of_beq_eq_true c1;replace c2:=Nat.eq_of_beq_eq_true c2;simp only[Id]at B;obtain⟨rfl,rfl,rfl⟩:=B;have hS:SD E B0 X A w0 nt ⟨NZ (Nq ops o) (UW ps i++ρ0),om⟩ a w μ:=⟨h.own,h.fr,h.base,h.glo,h.dfr,h.size,cx,λk J=>by simp only at J;refine h.fresh k Dv (λq S _ W e=> ?_);have:=z.par.top q S W;rw[<-h.len]at this;omega,h.anc⟩
   refine c2i hC hS (by rw[<-b8n];exact Y) hp (λv m c q1 q2 q3 q4 q5 q6=>hK _ m c _ _ _ _ (next m c v q1 q2 ⟨q3.size,q3.block,q3.less,λk x hx=>q3.own k x Dx hx⟩ (λk J _=>q4 k Dv) q5 Dv ?_));cases f:o.dst with
   |none=>exact .inl ⟨rfl,rfl⟩
   |some d=>exact .inr ⟨d,s1,rfl,rfl,by rw[<-f];exact c3,q6⟩
theorem f4m{d:Nat}{v:Value}(h:d<a.tmps.size):(a.put (some d) v).tmps.getD d undef=v:=by simp[Act.put,h]
theorem d8a{d:Nat}{v:Value}(h:d<a.tmps.size->a.tmps.getD d undef=v):a.put (some d) v=a:=by
 have:a.tmps.setIfInBounds d v=a.tmps:=by
  by_cases b:d<a.tmps.size
  .have e:=h b;have c:a.tmps[d]=v:=by
    rw[<-e];simp[Array.getD,b]
   rw[<-c];simp[Array.setIfInBounds,b]
  .simp[Array.setIfInBounds,b]
 unfold Act.put;simp only;rw[this]
theorem c5j{P:Program}{o:Oper}{s d:Nat}(b:QL o=some (s,d)){c:Act->World->Prop}{Q:Exit->Act->World->Prop}:o.wp P a w c Q↔c (a.put (some d) (a.tmps.getD s undef)) w:=by
 obtain⟨e,_⟩:=c1f b;have f:=Pn b;have hx:(execOp a.eval o).run P w=.ok (.value (a.tmps.getD s undef)) w:=by simp[execOp,e,Act.eval]
 unfold Oper.wp;rw[hx,Oper.upon_value,f]
theorem d4a(c:Fixed E nt ops st ρ0 ps es own0)(h:Inv1 E B0 X A w0 nt ops st a0 ρ0 ps es own0 K listed a w μ sd xs sr om)(bn:listed.size=ops.size){i:Nat}{o:Oper}(ho:ops[i]?=some o)(I:(kinds (kb E.c2 ops) ops).getD i 0=3)
 (hi:¬Ld listed i) (hr:∀j,FB o j=true->Ld listed j) {S:Act->World->Prop} {Q:Exit->Act->World->Prop}
 (hK:∀T U J,Inv1 E B0 X A w0 nt ops st a0 ρ0 ps es own0 K (listed.setIfInBounds i true) T U J sd xs sr om->S T U):wpOp E.P ops Q i S a w:=by
 have bj:i<listed.size:=Fh;obtain⟨s,d,hf,L⟩:=c.dr.free i o ho I;have z:=Pn hf;have V9:d∈MD (kb E.c2 ops) ops:=Rw.2 ⟨i,o,ho,I,z⟩;have r:∀{v:Value} t,t≠d->(a.put (some d) v).tmps.getD t undef=a.tmps.getD t undef:=λt M=>PW (λe=>M (K6 e).symm);have Zi:a.tmps.getD s undef=a0.tmps.getD s undef:=h.tmp s (λq f _=>(L q.i q.o (c.pin q f).1).1) (λhD=>by
  obtain⟨j,o',h1,_,h3⟩:=Rw.1 hD;exact(L j o' h1).1 h3) (λy hs'=>by
  obtain⟨j,hj,_,_⟩:=h.sdL y hs';exact(L j y hj).1)
 unfold wpOp;rw[ho];simp only;rw[Iz H2];refine .inl ((c5j hf).2 (hK _ w μ ?_));refine⟨h.own,h.len,h.fr,h.base,h.glo,h.dfr,by simp[Act.put,h.size],h.sk,h.late,λx hx=> ?_,λe C=> ?_,h.xsA,λx hx=> ?_,λj o' hj dn N=> ?_,h.srP,
  λq f hL=> ?_,λt M V m=> ?_,λj o' y W hj dn F hL u=> ?_,λk dh N=>h.fresh k dh (λq f hL=>N q f ((DH bj).2 (.inr hL))),h.env0,λj o' l hj hL hw=> ?_,h.anc,λj o' hj dn hL=> ?_⟩
 .obtain⟨j,hj,dn,hL⟩:=h.sdL x hx;exact Ct
 .obtain⟨Y,e2,y,hs',m⟩:=h.xsE e C;obtain⟨j,hj,dn,_⟩:=h.sdL y hs';refine⟨Y,e2.put (λu=> ?_) (λg b G=>by rw[Y]at G;cases G),y,hs',m⟩;have:=c.dr.uniq _ _ _ _ _ ho hj (z.trans u) m;rw[this]at I;omega
 .obtain⟨u1,Z,u3⟩:=h.srU x hx;refine⟨u1,Z,λhL=> ?_⟩;rcases(DH bj).1 hL with e|hL
  .rw[e]at Z;omega
  .exact u3 hL
 .exact h.srA j o' hj dn (λhL=>N ((DH bj).2 (.inr hL)))
 .have R0:=(c.pin q f).2;have b9:q.i≠i:=λe=>by rw[e]at R0;omega
  have H:Ld listed q.i:=by
   rcases(DH bj).1 hL with e|hL
   .exact absurd e b9
   .exact hL
  have n:=h.ent q f H;obtain⟨ρ',p',_,hs',_⟩:=c.par.step q f;obtain⟨B,O⟩:=TZ hs';unfold PM at n⊢;split
  .exact J5
  .rename_i e C;rw[C]at n B;simp only at n;refine n.put (λu=> ?_) (λg b G u=> ?_)
   .have:q.o.dst=some e.slot:=by rw[<-B];rfl
    exact b9 (c.dr.uniq _ _ _ _ _ (c.pin q f).1 ho this (z.trans u))
   .obtain⟨j,p2,kq,hj⟩:=O e C g b G;cases ri:ops[j]? with
    |none=>rw[ri]at hj;cases hj
    |some oj=>
     rw[ri]at hj;have mv:=c.dr.uniq _ _ _ _ _ ri ho hj (z.trans u);have hw:=c.dr.guard _ _ _ _ (c.pin q f).1 kq;exact hi (mv▸h.closed _ _ _ (c.pin q f).1 H hw)
 .rw[r t (λe=>V (e▸V9))];exact h.tmp t (λq f hL=>M q f ((DH bj).2 (.inr hL))) V m
 .by_cases e:j=i
  .subst e;rw[ho]at hj;cases hj;rw[hf]at F;cases F;rw[f4m (by rw[h.size];exact u)];exact Zi
  .have H:Ld listed j:=by
    rcases(DH bj).1 hL with R|hL
    .exact absurd R e
    .exact hL
   rw[r W (λR=>e (c.dr.uniq _ _ _ _ _ hj ho (Pn F) (by rw[z,R])))];exact h.frd j o' y W hj dn F H u
 .rcases(DH bj).1 hL with e|hL
  .subst e;rw[ho]at hj;cases hj;exact(DH bj).2 (.inr (hr l hw))
  .exact Cu
 .rcases(DH bj).1 hL with e|hL
  .subst e;omega
  .exact h.no2 j o' hj dn hL
theorem settle(d:Fixed E nt ops st ρ0 ps es own0)(h:Inv1 E B0 X A w0 nt ops st a0 ρ0 ps es own0 K listed a w μ sd xs sr om)(C:∀(i:Nat) (o:Oper),ops[i]?=some o->(kinds (kb E.c2 ops) ops).getD i 0≠2->(kinds (kb E.c2 ops) ops).getD i 0≠3->Ld listed i):
 SD E B0 X A w0 nt ⟨xs++(es++ρ0),om⟩ a w μ/\d7n E (kb E.c2 ops) nt ops K ⟨xs++(es++ρ0),om⟩:=by
 have H:∀q∈ps,Ld listed q.i:=λq c=>C q.i q.o (d.pin q c).1 (by rw[(d.pin q c).2];omega) (by rw[(d.pin q c).2];omega);refine⟨⟨h.own,h.fr,h.base,h.glo,h.dfr,h.size,λt e f=> ?_,λk v=> ?_,h.anc⟩,?_⟩
 .have F:=MY f;simp only at f;rw[b4y]at f;split at f
  .rename_i x hx;cases f;exact(h.xsE _ (Nx hx)).2.1
  rename_i I;rw[b4y]at f;split at f
  .rename_i x hx;cases f;obtain⟨q,c,J⟩:=(d.es _).1 (Nx hx);have:=h.ent q c (H q c);rw[J]at this;exact this
  .rename_i L;have l:=h.env0 t e f;have M:∀q∈ps,q.o.dst≠some t:=by
    intro q c m;obtain⟨ρq,p,_,hs,_⟩:=d.par.step q c;have G:=(TZ hs).1;rw[m,J7]at G;obtain⟨y,z,hs'⟩:=G;exact b2w.1 L y ((d.es _).2 ⟨q,c,z⟩) hs'
   have u:=h.tmp t (λq c _=>M q c) (by rw[<-F];exact d.fno e (Nx f)) (λs hs m=>by obtain⟨y,N,hs'⟩:=h.xsA s hs t m;exact b2w.1 I y N hs')
   unfold CZ at l⊢;rw[F]at l⊢;split
   .rename_i n;rw[n]at l;simp only at l;rw[u];exact l
   .rename_i g b n;rw[n]at l;simp only at l;have O:=h.tmp g (λq c _ m=>d.gno e (Nx f) g b n q.i q.o (d.pin q c).1 m) (λP=>by
     obtain⟨j,Q,R,h2,S⟩:=Rw.1 P;exact d.gno e (Nx f) g b n j Q R S) (λs hs m=>by
     obtain⟨j,T,_,_⟩:=h.sdL s hs;exact d.gno e (Nx f) g b n j s T m)
    rw[u,O];exact l
 .simp only at v;rw[h.len]at v;refine h.fresh k (Kq d.top v) (λq c _ U e=> ?_);have:=d.par.top q c U;omega
 .have B:sr=[]:=by
   match sr,h.srU with
   | [],_=>rfl
   |x::r,V=>
    obtain⟨W,u2,Y⟩:=V x Dx;exact absurd (C _ _ W Dv Dv) Y
  have:=h.sk;rw[B]at this;exact this
end
theorem b0m(ks:List Nat)(o:Oper):Rk ks o<=2:=by
 unfold Rk;split
 .exact C2
 .split<;>decide
theorem c1j(ks:List Nat)(o:Oper):b2p ks o<=2:=by
 unfold b2p;split
 .exact C2
 .split
  .exact C2
  .exact b0m _ _
theorem c20(ks:List Nat)(o:Oper):b2y ks o<=2:=by
 unfold b2y;split
 .exact C2
 .split
  .decide
  .split
   .split<;>decide
   .exact b0m _ _
theorem c31(ops:Array Oper)(ks:List Nat)(o:Oper):b38 ops ks o<=2:=by
 unfold b38;split
 .exact C2
 .split
  .decide
  .exact b0m _ _
theorem c39(b:Nat)(ops:Array Oper)(i:Nat):(d5z b ops).getD i 0<=2:=by
 have:∀(l:List Oper) (a:List Nat),(∀x∈a,x<=2)->∀x∈l.foldl (λa o=>a++[match b with|0=>Rk a o|1=>b2p a o|2=>b2y a o|_=>b38 ops a o]) a,x<=2:=by
  intro l;induction l with
  |nil=>intro a h;exact h
  |cons o l c=>
   intro a h;refine c _ (λx hx=> ?_);rcases Jy.1 hx with hx|hx
   .exact h x hx
   .rw[Js.1 hx];split
    .exact b0m _ _
    .exact c1j _ _
    .exact c20 _ _
    .exact c31 _ _ _
 have h:=this ops.toList [] Dx;rw[Ix];cases e:(d5z b ops)[i]? with
 |none=>simp
 |some x=>exact h x (J6 e)
theorem f1n(b:Nat)(ops:Array Oper)(i:Nat):(kinds b ops).getD i 0<=3:=by
 unfold kinds f3d;split
 .have:=c39 b ops i;omega
 .simp only;rw[Ix,Jr];cases ops.toList.zipIdx[i]? with
  |none=>simp
  |some x=>
   simp only[Iq];split
   .exact C2
   .have:=c39 b ops x.2;omega
theorem b86{ops:Array Oper}{listed:Array Bool}(bn:listed.size=ops.size)(d:∀(i:Nat) (o:Oper) (j:Nat),ops[i]?=some o->FB o j=true->j<i){i:Nat}(h:i∈Region.ready .any ops listed):∃o,ops[i]?=some o/\¬Ld listed i/\∀j,FB o j=true->Ld listed j:=by
 unfold Region.ready at h;simp only[Kf,Jn,Iv]at h;obtain⟨h1,f,a⟩:=h;obtain⟨o,b⟩:∃o,ops[i]?=some o:=⟨ops[i],En⟩
 refine⟨o,b,by unfold Ld;rw[f];simp,λj c=> ?_⟩;have b6:=d i o j b c;rw[b]at a;simp only[Iq]at a;rw[Array.all_eq_true_iff_forall_mem]at a;simp only[FB,Jj,Is]at c;obtain⟨e,g,k,rfl⟩:=c;have:=a e (by simpa using g);rw[k]at this;simp only[Bool.not_true,N4]at this;unfold Ld;rw[<-this];have l:e.on<listed.size:=Dv;simp[Array.getD,l]
theorem d67{ops:Array Oper}{listed:Array Bool}(d:∀(i:Nat) (o:Oper) (j:Nat),ops[i]?=some o->FB o j=true->j<i)(bn:listed.size=ops.size)(h:Region.ready .any ops listed=[]):∀(i:Nat) (o:Oper),ops[i]?=some o->Ld listed i:=by
 intro i;induction i using Nat.strongRecOn with
 |_ i f=>
  intro o a;have g:i<ops.size:=(K9.1 a).1;by_cases b:Ld listed i
  .exact b
  exfalso;have:i∈Region.ready .any ops listed:=by
   unfold Region.ready;simp only[Kf,Jn,Iv];refine⟨g,by unfold Ld at b;simpa using b,?_⟩;rw[a];simp only[Iq];rw[Array.all_eq_true_iff_forall_mem];intro e k;cases hb:Region.binds .any e with
   |false=>rfl
   |true=>
    have l:FB o e.on=true:=by simp only[FB,Jj,Is];exact⟨e,by simpa using k,hb,rfl⟩
    have m:=d i o _ a l;obtain⟨c,n⟩:∃c,ops[e.on]?=some c:=⟨ops[e.on]'Dv,by simp[show e.on<ops.size from Dv]⟩
    have:=f _ m c n;unfold Ld at this;have q:e.on<listed.size:=Dv;simp[Array.getD,q]at this⊢;exact this
  rw[h]at this;simp at this
section
variable{E:Env}{B0:Nat}{X A:Nat->Prop}{w0:World}{nt:Nat}{ops:Array Oper}{st:St}{a0:Act}{ρ0:List Entry}{ps:List PI}{es:List Entry}{own0:List Blk}{K:St->Prop}
theorem b6n{p:Nat->Bool}{t:Nat}{e:Entry}:∀{ρ:List Entry},CJ t (ρ.filter λe=>p e.slot)=some e->CJ t ρ=some e
 | [],h=>by simp[CJ]at h
 |x::ρ,h=>by
  simp only[List.filter_cons]at h;split at h
  .simp only[CJ]at h⊢;split
   .rename_i hx;rw[Iz hx]at h;exact h
   .rename_i hx;rw[J3 hx]at h;exact b6n h
  .rename_i a;have c:=b6n h;simp only[CJ];split
   .rename_i hx;exfalso;have:∀{l:List Entry},CJ t (l.filter λe=>p e.slot)=some e->p t=true:=by
     intro l b;have hs:=MY b;have:=(Kf.1 (Nx b)).2;rw[hs]at this;exact this
    rw[hx]at a;exact a (this h)
   .exact c
theorem c1a{w:World}{H:Nat->Prop}{μ:Mu}{tmps:Array Value}{a:List Nat}{ρ:List Entry}(h:EP w H μ tmps ρ):EP w H μ tmps (ρ.map (Oh a)):=by
 intro t e b;rw[UU (b15 a),J7]at b;obtain⟨d,f,rfl⟩:=b;have c:=h t d f;unfold Oh;split
 .split
  .exact .any
  .exact c
 .exact c
theorem d7g{w:World}{H:Nat->Prop}{μ:Mu}{tmps:Array Value}{a:List Nat}{ρ:List Entry}(h:EP w H μ tmps ρ):EP w H μ tmps (ρ.filter λe=> !a.contains e.slot):=
 λt e b=>h t e (b6n (p:=λt=> !a.contains t) b)
theorem b3w{c:List Nat}{e:Entry}{g:Nat}{b:Bool}(a:(Oh c e).guard=some (g,b)):g∉c:=by
 unfold Oh at a;split at a
 .rename_i g' b' d;split at a
  .cases a
  .rename_i f;rw[d]at a;cases a;exact λh=>f (by simpa using h)
 .rename_i i;rw[i]at a;cases a
def NoE(a:List Nat)(ρ:List Entry):Prop:=∀e∈ρ,e.slot∉a/\∀g b,e.guard=some (g,b)->g∉a
theorem d7j{a:List Nat}{ρ:List Entry}:NoE a (Qs a ρ):=by intro e c;obtain⟨e0,d,rfl⟩:=Jp.1 c;refine⟨?_,λg b f=>b3w f⟩;rw[b15];simpa using(Kf.1 d).2
theorem g1n{w:World}{H:Nat->Prop}{μ:Mu}{tmps:Array Value}{a:List Nat}{ρ:List Entry}(h:EP w H μ tmps ρ):EP w H μ tmps (Qs a ρ):=c1a (d7g h)
theorem c9c(ρ:List Entry):Qs [] ρ=ρ:=by
 have:∀ρ:List Entry,ρ.map (Oh [])=ρ:=by
  intro ρ;induction ρ with
  |nil=>rfl
  |cons e ρ a=>
   have:Oh [] e=e:=by
    unfold Oh;split
    .simp
    .rfl
   rw[Km,this,a]
 unfold Qs;simp only[List.contains_nil,Bool.not_false];rw[List.filter_eq_self.2 (λ_ _=>rfl),this]
theorem SD.drp{a:Act}{w:World}{μ:Mu}{c:List Nat}{b:St}(h:SD E B0 X A w0 nt b a w μ):SD E B0 X A w0 nt ⟨Qs c b.ρ,b.own⟩ a w μ:=
 ⟨h.own,h.fr,h.base,h.glo,h.dfr,h.size,g1n h.env,h.fresh,h.anc⟩
theorem wp_put{P:Program}{o:Oper}{a:Act}{w:World}{K:Act->World->Prop}{Q:Exit->Act->World->Prop}(h:o.wp P a w K Q):o.wp P a w (λd c=>K d c/\∃v,d.tmps=(a.put o.dst v).tmps) Q:=by
 unfold Oper.wp at*;generalize (execOp a.eval o).run P w=r at*;have Q0:∀v:Value,∃f,(a.put o.dst v).tmps=(a.put o.dst f).tmps:=λv=>⟨v,rfl⟩
 cases r with
 |ok n c=>
  cases n<;>simp only[Oper.upon]at h⊢ <;>
   first
    |exact⟨h,_,rfl⟩
    |exact⟨h,undef,by cases o.dst<;>rfl⟩
    |exact Calls.mono h (λe w'' b=>by cases e<;>first|exact⟨b,_,rfl⟩|exact b)
    |exact Rows.mono h (λ_ _ b=>⟨b,_,rfl⟩)
 |halt x c=>cases x<;>simp only[Oper.upon]at h⊢ <;>exact h
theorem f3i(q:EnvOK E)(t:GR E){a:Act}{w:World}{j:St->Prop}:∀(l:List Oper) {b:St} {c:Mu} (r:List Oper),SD E B0 X A w0 nt b a w c->(∀o∈l,∃s d,QL o=some (s,d)/\(d<nt->a.tmps.getD d undef=a.tmps.getD s undef))->Oe E nt ops j (l++r) b->
 ∃f i,SD E B0 X A w0 nt f a w i/\Oe E nt ops j r f:=by
 intro l;induction l with
 |nil=>intro b c r h _ e;exact⟨b,c,h,e⟩
 |cons o l u=>
  intro b c r h k e;simp only[M5,b2f]at e;obtain⟨b,c,h,e⟩:=b1t h e;unfold SK at e;split at e;rotate_left
  .exact e.elim
  rename_i p f hs;rw[St.forceO_eq]at e;obtain⟨s,d,hf,v⟩:=k o Dx;have:=b0v (K:=λm n=>∃g,SD E B0 X A w0 nt f m n g) (Q:=λ_ _ _=>False) q t h hs e.1.out (λm n g h=>⟨g,h⟩);rw[Iz H2,c5j hf,d8a (λx=>v (by rw[<-h.size];exact x))]at this;obtain⟨i,y⟩:=this;exact u r y (λz B=>k z (by simp[B])) e.2
structure Inv2 (E:Env) (B0:Nat) (X A:Nat->Prop) (w0:World) (nt:Nat) (ops:Array Oper) (K:St->Prop) (listed:Array Bool) (a:Act) (w:World) (μ:Mu) (rest:List ((Oper×Nat)×List (Oper×Nat))) (st':St):Prop where
 sd:SD E B0 X A w0 nt st' a w μ
 sk:RR E (kb E.c2 ops) nt ops (MD (kb E.c2 ops) ops) K rest st'
 no:NoE (MD (kb E.c2 ops) ops) st'.ρ
 low:∀(i:Nat) (o:Oper),ops[i]?=some o->(kinds (kb E.c2 ops) ops).getD i 0≠2->(kinds (kb E.c2 ops) ops).getD i 0≠3->Ld listed i
 mem:∀g∈rest,ops[g.1.2]?=some g.1.1/\(kinds (kb E.c2 ops) ops).getD g.1.2 0=2/\¬Ld listed g.1.2
 grp:∀g∈rest,∀f∈g.2,ops[f.2]?=some f.1/\(kinds (kb E.c2 ops) ops).getD f.2 0=3/\Reach ops g.1.2 f.2
 all:∀(i:Nat) (o:Oper),ops[i]?=some o->(kinds (kb E.c2 ops) ops).getD i 0=2->¬Ld listed i->∃fs,((o,i),fs)∈rest
 pair:rest.Pairwise (λx y=>x.1.2<y.1.2)
 cl:∀(i:Nat) (o:Oper) (j:Nat),ops[i]?=some o->Ld listed i->FB o j=true->Ld listed j
 fr:∀(i:Nat) (o:Oper) (s d:Nat),ops[i]?=some o->(kinds (kb E.c2 ops) ops).getD i 0=3->QL o=some (s,d)->Ld listed i->d<nt->a.tmps.getD d undef=a.tmps.getD s undef
theorem d54(hE:EnvOK E)(hC:GR E)(S:Draws (kb E.c2 ops) ops){listed:Array Bool}{a:Act}{w:World}{μ:Mu}{z:List ((Oper×Nat)×List (Oper×Nat))}{W:St}(h:Inv2 E B0 X A w0 nt ops K listed a w μ z W)(bn:listed.size=ops.size){i:Nat}{o:Oper}(ho:ops[i]?=some o)(f8:(kinds (kb E.c2 ops) ops).getD i 0=2)
 (hi:¬Ld listed i) (Y:∀j,FB o j=true->Ld listed j) {Z:Act->World->Prop} {Q:Exit->Act->World->Prop}
 (hK:∀n u b B J,Inv2 E B0 X A w0 nt ops K (listed.setIfInBounds i true) n u b B J->Z n u):wpOp E.P ops Q i Z a w:=by
 have C:i<listed.size:=Fh;obtain⟨fs,cf⟩:=h.all i o ho f8 hi;have c:=h.sk;have T:=h.mem;have F:=h.pair;have ha:=h.all;have U:=h.grp;match z,cf,c,T,F,ha,U with
 |((q,V),y)::r,cf,c,T,F,ha,U=>
  rw[Ki]at F;have rj:((o,i),fs)=((q,V),y):=by
   rcases Jd.1 cf with e|L
   .exact e
   .exfalso;have b6:V<i:=F.1 _ L;obtain⟨G,H,M⟩:=T ((q,V),y) Dx;simp only at H;exact M (b0c h.cl (S.last i o V q ho f8 G Dv Dv Dv) ho Y)
  cases rj;simp only[RR]at c;obtain⟨st2,μ2,h2,c⟩:=f3i hE hC (fs.map (·.1)) [o] h.sd (λo1 w9=>by obtain⟨f,hf,rfl⟩:=Jp.1 w9;obtain⟨G,H,M⟩:=U ((o,i),fs) Dx f hf;obtain⟨s,d,f1,_⟩:=S.free _ _ G H;exact⟨s,d,f1,h.fr _ _ _ _ G H f1 (b0c h.cl M ho Y)⟩) c
  simp only[b2f]at c;obtain⟨st2,μ2,h2,c⟩:=b1t h2 c;unfold SK at c;split at c;rotate_left
  .exact c.elim
  rename_i p N hs;simp only[St.force_eq,St.forceO_eq]at c;have l:=b0v (K:=λn u=>∃b,SD E B0 X A w0 nt N n u b) (Q:=Q) hE hC h2 hs c.1.out (λn u b hs'=>⟨b,hs'⟩);have O:∀n u,((∃b,SD E B0 X A w0 nt N n u b)/\∃v,n.tmps=(a.put o.dst v).tmps)->Z n u:=by
   rintro n u ⟨⟨b,hs'⟩,v,hv⟩;refine hK n u b r _ ⟨hs'.drp,c.2,d7j,λj q t hk jx=>(DH C).2 (.inr (h.low j q t hk jx)),λx hx=> ?_,λg wm=>U g (by simp[wm]),λj q t R hn=> ?_,F.2,λj q k t m I=> ?_,λj q s d t R jh m b6=> ?_⟩
   .obtain⟨G,H,M⟩:=T x Ef;refine⟨G,H,λm=> ?_⟩;rcases(DH C).1 m with e|m
    .have:=F.1 x hx;simp only at this;omega
    .exact M m
   .obtain⟨y,L⟩:=ha j q t R (λm=>hn ((DH C).2 (.inr m)));rcases Jd.1 L with e|L
    .cases e;exact absurd ((DH C).2 (.inl rfl)) hn
    .exact⟨y,L⟩
   .refine(DH C).2 (.inr ?_);rcases(DH C).1 m with e|m
    .subst e;rw[ho]at t;cases t;exact Y _ I
    .exact h.cl _ _ _ t m I
   .have b9:j≠i:=λe=>by rw[e]at R;omega
    have qk:Ld listed j:=by
     rcases(DH C).1 m with e|m
     .exact absurd e b9
     .exact m
    obtain⟨s',d',f1,f2⟩:=S.free j q t R;rw[jh]at f1;cases f1;rw[hv,PW (λe=>b9 (S.uniq _ _ _ _ _ t ho (Pn jh) e)),PW (f2 i o ho).1];exact h.fr j q s d t R jh qk b6
  unfold wpOp;rw[ho];simp only;split
  .rename_i I;rw[Iz I]at l;exact .inl (Oper.wp_mono O (wp_put l))
  .rename_i I;rw[J3 I]at l;exact O _ _ ⟨l,_,rfl⟩
theorem d6w(B:Draws (kb E.c2 ops) ops){listed:Array Bool}{a:Act}{w:World}{μ:Mu}{l:List ((Oper×Nat)×List (Oper×Nat))}{r:St}(h:Inv2 E B0 X A w0 nt ops K listed a w μ l r)(bn:listed.size=ops.size){i:Nat}{o:Oper}(ho:ops[i]?=some o)(y:(kinds (kb E.c2 ops) ops).getD i 0=3)
 (U:∀j,FB o j=true->Ld listed j) {I:Act->World->Prop} {Q:Exit->Act->World->Prop}
 (V:∀J L C m u,Inv2 E B0 X A w0 nt ops K (listed.setIfInBounds i true) J L C m u->I J L):wpOp E.P ops Q i I a w:=by
 have q:i<listed.size:=Fh;obtain⟨s,d,hf,pj⟩:=B.free i o ho y;have F:=Pn hf;have M:d∈MD (kb E.c2 ops) ops:=Rw.2 ⟨i,o,ho,y,F⟩;unfold wpOp;rw[ho];simp only;rw[Iz H2];refine .inl ((c5j hf).2 (V _ w μ l r ?_));have hS:=h.sd;refine⟨⟨hS.own,hS.fr,hS.base,hS.glo,hS.dfr,by simp[Act.put,hS.size],λt e N=> ?_,hS.fresh,hS.anc⟩,h.sk,h.no,λj n c y W=>(DH q).2 (.inr (h.low j n c y W)),λx hx=> ?_,h.grp,λj n c z Y=>h.all j n c z (λf=>Y ((DH q).2 (.inr f))),h.pair,λj n k c f O=> ?_,λj n R Z c z v f S=> ?_⟩
 .obtain⟨n1,n2⟩:=h.no e (Nx N);exact(hS.env t e N).put (λG=>n1 (by rw[<-K6 G];exact M)) (λg b hg G=>n2 g b hg (by rw[<-K6 G];exact M))
 .obtain⟨u1,T,u3⟩:=h.mem x hx;refine⟨u1,T,λf=> ?_⟩;rcases(DH q).1 f with e|f
  .rw[e]at T;omega
  .exact u3 f
 .refine(DH q).2 (.inr ?_);rcases(DH q).1 f with e|f
  .subst e;rw[ho]at c;cases c;exact U _ O
  .exact h.cl _ _ _ c f O
 .obtain⟨s1,d1,f1,f2⟩:=B.free j n c z;rw[v]at f1;cases f1;have Q9:R≠d:=λe=>(f2 i o ho).1 (by rw[F,e]);rw[PW (a:=a) (λe=>Q9 (K6 e).symm)];by_cases e:j=i
  .subst e;rw[ho]at c;cases c;rw[hf]at v;cases v;rw[f4m (by rw[hS.size];exact S)]
  .have qk:Ld listed j:=by
    rcases(DH q).1 f with H|f
    .exact absurd H e
    .exact f
   rw[PW (a:=a) (λH=>e (B.uniq _ _ _ _ _ c ho (Pn v) (by rw[F];exact H)))];exact h.fr j n R Z c z v qk S
def g0h(E:Env)(B0:Nat)(X A:Nat->Prop)(w0:World)(nt:Nat)(ops:Array Oper)(st:St)(a0:Act)(ρ0:List Entry)(ps:List PI)(es:List Entry)(own0:List Blk)(K:St->Prop)(listed:Array Bool)(a:Act)(w:World):Prop:=
 (∃c e f g h,Inv1 E B0 X A w0 nt ops st a0 ρ0 ps es own0 K listed a w c e f g h)\/∃c b d,Inv2 E B0 X A w0 nt ops K listed a w c b d
theorem f2t{ops:Array Oper}(c:JB (kb E.c2 ops) ops 3=[]):∀(l:List ((Oper×Nat)×List (Oper×Nat))) (a:St),(∀g∈l,g.2=[])->Oe E nt ops K (l.map (·.1.1)) a->RR E (kb E.c2 ops) nt ops [] K l a:=by
 intro l;induction l with
 |nil=>intro a _ h;simp only[RR,c];exact h
 |cons g l d=>
  intro a b h;simp only[RR,b g Dx,List.map_nil,N1];simp only[Km,b2f]at h⊢;refine d23 (λst=>d8n (λst e=> ?_) st) h;simp only[St.force_eq,c9c];exact d _ (λf i=>b f (by simp[i])) e
theorem d0g(j:Draws (kb E.c2 ops) ops){a:St}(h:d7n E (kb E.c2 ops) nt ops K a):RR E (kb E.c2 ops) nt ops (MD (kb E.c2 ops) ops) K (SS (kb E.c2 ops) ops) ⟨Qs (MD (kb E.c2 ops) ops) a.ρ,a.own⟩:=by
 unfold d7n at h;split at h
 .rename_i b;have c:JB (kb E.c2 ops) ops 3=[]:=by
   refine List.eq_nil_iff_forall_not_mem.2 (λx hx=> ?_);obtain⟨e,f⟩:=Oi.1 (show (x.1,x.2)∈JB (kb E.c2 ops) ops 3 from hx);obtain⟨s,d,f1,_⟩:=j.free _ _ e f;have:d∈MD (kb E.c2 ops) ops:=Rw.2 ⟨x.2,x.1,e,f,Pn f1⟩;rw[b]at this;cases this
  rw[b,c9c];refine f2t c _ _ (λg i=> ?_) ?_
  .unfold SS at i;obtain⟨x,_,rfl⟩:=Jp.1 i;simp[c]
  .unfold SS;rw[Ma];exact h
 .rename_i d ds b;rw[St.force_eq]at h;rw[b];exact h
theorem f3f(b:Fixed E nt ops st ρ0 ps es own0){listed:Array Bool}{a:Act}{w:World}{μ:Mu}{sd:List Oper}{xs:List Entry}{B:List (Oper×Nat)}{p:List Blk}(h:Inv1 E B0 X A w0 nt ops st a0 ρ0 ps es own0 K listed a w μ sd xs B p)(r:∀(i:Nat) (o:Oper),ops[i]?=some o->(kinds (kb E.c2 ops) ops).getD i 0≠2->(kinds (kb E.c2 ops) ops).getD i 0≠3->Ld listed i):
 Inv2 E B0 X A w0 nt ops K listed a w μ (SS (kb E.c2 ops) ops) ⟨Qs (MD (kb E.c2 ops) ops) (xs++(es++ρ0)),p⟩:=by
 obtain⟨C,F⟩:=settle b h r;refine⟨C.drp,d0g b.dr F,d7j,r,λx hx=> ?_,λx hx f G=> ?_,λi o c e hn=> ?_,?_,h.closed,λi o s d c e t H I=> ?_⟩
 .unfold SS at hx;obtain⟨y,k,rfl⟩:=Jp.1 hx;obtain⟨g,l⟩:=Oi.1 (show (y.1,y.2)∈JB (kb E.c2 ops) ops 2 from k);exact⟨g,l,h.no2 _ _ g l⟩
 .unfold SS at hx;obtain⟨y,k,rfl⟩:=Jp.1 hx;obtain⟨g,l⟩:=Oi.1 (show (y.1,y.2)∈JB (kb E.c2 ops) ops 2 from k);obtain⟨m,u⟩:=Kf.1 G;obtain⟨v,z⟩:=Oi.1 (show (f.1,f.2)∈JB (kb E.c2 ops) ops 3 from m);refine⟨v,z,?_⟩;obtain⟨s,d,f1,f2⟩:=b.dr.free _ _ v z;rw[Pn f1]at u;exact((f2 _ _ g).2 (by simpa using u)).2
 .exact⟨_,Jp.2 ⟨(o,i),Oi.2 ⟨c,e⟩,rfl⟩⟩
 .unfold SS;rw[L4];exact b24 _ _ _
 .obtain⟨n,d',f1,f2⟩:=b.dr.free _ _ c e;rw[t]at f1;cases f1;rw[h.frd i o s d c e t H I];exact(h.tmp s (λq J _=>(f2 q.i q.o (b.pin q J).1).1) (λL=>by
   obtain⟨j,M,g1,_,N⟩:=Rw.1 L;exact(f2 j M g1).1 N) (λn hs'=>by
   obtain⟨j,O,_,_⟩:=h.sdL n hs';exact(f2 j n O).1)).symm
theorem walk(N:EnvOK E)(H:GR E)(n:Fixed E nt ops st ρ0 ps es own0){Q:Exit->Act->World->Prop}(hQ:∀g k l c,SD E B0 X A w0 nt g k l c->K g->Q .normal k l):∀(fuel:Nat) (listed:Array Bool) (U:List Nat) (a:Act) (w:World),
 listed.size=ops.size->(∀(i:Nat) (o:Oper),ops[i]?=some o->¬Ld listed i->i∈U)->U.length<=fuel->g0h E B0 X A w0 nt ops st a0 ρ0 ps es own0 K listed a w->wpAny E.P .any ops Q fuel listed a w:=by
 have C:∀(listed:Array Bool) (a:Act) (w:World),g0h E B0 X A w0 nt ops st a0 ρ0 ps es own0 K listed a w->(∀(i:Nat) (o:Oper),ops[i]?=some o->Ld listed i)->Q .normal a w:=by
  intro listed a w h z;have two:∀{t b g},Inv2 E B0 X A w0 nt ops K listed a w t b g->Q .normal a w:=by
   intro t b g h;have:b=[]:=by
    match b,h.mem with
    | [],_=>rfl
    |x::r,hm=>obtain⟨F,_,u3⟩:=hm x Dx;exact absurd (z _ _ F) u3
   have I:=h.sk;rw[this]at I;simp only[RR]at I;obtain⟨st2,μ2,u,f8⟩:=f3i N H ((JB (kb E.c2 ops) ops 3).map (·.1)) [] h.sd (λo ho=>by obtain⟨f,hf,rfl⟩:=Jp.1 ho;obtain⟨F,u2⟩:=Oi.1 (show (f.1,f.2)∈JB (kb E.c2 ops) ops 3 from hf);obtain⟨s,d,f1,_⟩:=n.dr.free _ _ F u2;exact⟨s,d,f1,h.fr _ _ _ _ F u2 f1 (z _ _ F)⟩) (by rw[List.append_nil];exact I)
   exact hQ _ _ _ _ u f8
  rcases h with⟨t,O,R,S,T,h⟩|⟨t,b,g,h⟩
  .exact two (f3f n h (λi o ho _ _=>z i o ho))
  .exact two h
 intro fuel;induction fuel with
 |zero=>
  intro listed U a w bn J hl h;have z:∀(i:Nat) (o:Oper),ops[i]?=some o->Ld listed i:=by
   intro i o ho;by_cases L:Ld listed i
   .exact L
   .have:=J i o ho L;rw[Lp.1 (by omega:U.length=0)]at this;simp at this
  refine⟨?_,C listed a w h z⟩;refine List.eq_nil_iff_forall_not_mem.2 (λi V=> ?_);obtain⟨o,ho,y,_⟩:=b86 bn n.dr.lt V;exact y (z i o ho)
 |succ fuel ih=>
  intro listed U a w bn J hl h;refine⟨λW=>C listed a w h (d67 n.dr.lt bn W),λi V=> ?_⟩;obtain⟨o,ho,y,B⟩:=b86 bn n.dr.lt V;have Y:=J i o ho y;have bj:i<listed.size:=Fh;have next:∀k l,g0h E B0 X A w0 nt ops st a0 ρ0 ps es own0 K (listed.setIfInBounds i true) k l->wpAny E.P .any ops Q fuel (listed.setIfInBounds i true) k l:=by
   intro k l hs;refine ih _ (U.erase i) k l (by simpa using bn) (λj Z hj Zq=> ?_) ?_ hs
   .have b9:j≠i:=λe=>Zq ((DH bj).2 (.inl e));exact(List.mem_erase_of_ne b9).2 (J j Z hj (λL=>Zq ((DH bj).2 (.inr L))))
   .rw[List.length_erase_of_mem Y];omega
  have two:∀{t b g},Inv2 E B0 X A w0 nt ops K listed a w t b g->wpOp E.P ops Q i (wpAny E.P .any ops Q fuel (listed.setIfInBounds i true)) a w:=by
   intro t b g h;by_cases M:(kinds (kb E.c2 ops) ops).getD i 0=3
   .exact d6w n.dr h bn ho M B (λk l c m q v=>next k l (.inr ⟨c,m,q,v⟩))
   have u:(kinds (kb E.c2 ops) ops).getD i 0=2:=by
    by_cases u:(kinds (kb E.c2 ops) ops).getD i 0=2
    .exact u
    .exact absurd (h.low i o ho u M) y
   exact d54 N H n.dr h bn ho u y B (λk l c m q v=>next k l (.inr ⟨c,m,q,v⟩))
  rcases h with⟨t,O,R,S,T,h⟩|⟨t,b,g,h⟩
  .have I:=f1n (kb E.c2 ops) ops i;by_cases W:(kinds (kb E.c2 ops) ops).getD i 0=0
   .exact d7t N H n h bn ho W y B (λk l c v=>next k l (.inl ⟨c,O,R,S,T,v⟩))
   by_cases h1:(kinds (kb E.c2 ops) ops).getD i 0=1
   .exact d07 H n h bn ho h1 y B (λk l c sd' xs' sr' om' v=>next k l (.inl ⟨c,sd',xs',sr',om',v⟩))
   by_cases M:(kinds (kb E.c2 ops) ops).getD i 0=3
   .exact d4a n h bn ho M y B (λk l c v=>next k l (.inl ⟨c,O,R,S,T,v⟩))
   have u:(kinds (kb E.c2 ops) ops).getD i 0=2:=Dv;refine two (f3f n h (λj Z hj dn G=>b0c h.closed (n.dr.last i o j Z ho u hj (λe=>dn (e▸u)) (λhc=>dn hc.1) G) ho B))
  .exact two h
theorem d0b(L:EnvOK E)(M:GR E)(N:E.P.follows .mixedOrders=true){id:Nat}(O:To (kb E.c2 ops) ops=true){a:Act}{w:World}{μ:Mu}(h:SD E B0 X A w0 nt st a w μ)(z:d85 E nt ops K st){R:Exit->Act->World->Prop}
 (Q:∀n F G B,SD E B0 X A w0 nt n F G B->K n->R .normal F G):(Code.region id ops true).wp E.P R a w:=by
 have S:=d8z O;refine wp_region_any N ?_;change wpAny E.P .any ops R ops.size (Array.replicate ops.size false) a w.drew;simp only[d85,d58,f5y]at z;generalize f:(st.ρ.filter λe=> !(MD (kb E.c2 ops) ops).contains e.slot).map (Oh (ops.toList.filterMap (·.dst)))=ρ0 at z;obtain⟨ps,es,own0,H,T,m,U,V,_,r,u⟩:=g1j (base:=st.own) (JB (kb E.c2 ops) ops 0) [] [] st.own z ⟨Dx,Dx,Dx,Dx,λ_ _ h=>h,Dx⟩ Dx Dx Dx (b24 _ _ _) (J9 _) Dx;have I:∀q∈ps,ops[q.i]?=some q.o/\(kinds (kb E.c2 ops) ops).getD q.i 0=0:=by
  intro q C;rcases U q C with h|h
  .simp at h
  .exact Oi.1 h
 have W:Fixed E nt ops st ρ0 ps es own0:=by
  refine⟨S,H,I,λi o c m=>V (o,i) (Oi.2 ⟨c,m⟩),T,λe l=> ?_,λe l g b Y i o c Z=> ?_,r,u⟩
  .rw[<-f,Jp]at l;obtain⟨e0,jr,rfl⟩:=l;rw[b15];simpa using(Kf.1 jr).2
  .rw[<-f,Jp]at l;obtain⟨e0,_,rfl⟩:=l;exact b3w Y (Me.2 ⟨o,Array.mem_toList_iff.2 (Array.mem_of_getElem? c),Z⟩)
 have v:∀i,i<ops.size->¬Ld (Array.replicate ops.size false) i:=by intro i hi;unfold Ld;simp[hi]
 refine walk (a0:=a) L M W Q ops.size _ (List.range ops.size) a w.drew Dx (λi o c _=>by simpa using(K9.1 c).1) Dx (.inl ⟨μ,[],[],JB (kb E.c2 ops) ops 1,own0,?_⟩);have lt:∀{i:Nat} {o:Oper},ops[i]?=some o->i<ops.size:=λc=>(K9.1 c).1;refine⟨(h.own.drew).more H.base,rfl,h.fr.trans Fr.drew,h.base,NH Keeps.drew h.glo,h.dfr,h.size,m,.inl rfl,Dx,Dx,Dx,λx hx=> ?_,λi o c m _=>Oi.2 ⟨c,m⟩,b24 _ _ _,
  λq C y=>absurd y (v _ (lt (I q C).1)),λt _ _ _=>rfl,λi o s d c _ _ y=>absurd y (v _ (lt c)),λk m _=>h.fresh k m,?_,λi o j c y=>absurd y (v _ (lt c)),h.anc,λi o c _=>v _ (lt c)⟩
 .obtain⟨J,u2⟩:=Oi.1 (show (x.1,x.2)∈JB (kb E.c2 ops) ops 1 from hx);exact⟨J,u2,v _ (lt J)⟩
 .rw[<-f];have l:EP w.drew (held A μ) μ a.tmps st.ρ:=λt e l=>CZ.keep Keeps.drew (h.env t e l);exact c1a (d7g l)
end
def addE(ρ:List Entry)(t:Nat)(s:SV):List Entry:=⟨t,none,s⟩::ρ
def QA:List (TypeId×Nat)->List (Nat×(Nat->List SV))->List Blk
 |t::a,r::b=>.row t.1 t.2 r.1 r.2 none::QA a b
 |_,_=>[]
theorem b0h:∀(ts:List (TypeId×Nat)) (a:List (Nat×(Nat->List SV))),ts.length=a.length->(QA ts a).length=ts.length
 | [],[],_=>rfl
 |t::ts,r::a,h=>by simp only[QA,Kh,b0h ts a E2]
 | [],_::_,h=>E6
 |_::_,[],h=>E6
theorem b6f:∀(ts:List (TypeId×Nat)) (a:List (Nat×(Nat->List SV))) (j:Nat) (b:Blk),(QA ts a)[j]?=some b->∃t r,ts[j]?=some t/\a[j]?=some r/\b=.row t.1 t.2 r.1 r.2 none
 | [],_,j,b,h=>by simp[QA]at h
 |_::_,[],j,b,h=>by simp[QA]at h
 |t::ts,r::a,0,b,h=>by simp[QA]at h;exact⟨t,r,rfl,rfl,h.symm⟩
 |t::ts,r::a,j+1,b,h=>by obtain⟨c,d,h1,e,f⟩:=b6f ts a j b (by simpa[QA]using h);exact⟨c,d,Es,by simpa using e,f⟩
def d43(E:Env)(t:Nat)(st:St):Option (Prop×St):=match CJ t st.ρ with
 |some ⟨_,none,.fp c k i 0⟩=>match st.own[k]? with
  |some (.fam T b n none F)=>match F i with
   |⟨d,a⟩=>if b.length=a.length/\E.ak k=false then
      some (c=true/\i<n,⟨addE st.ρ t (.own st.own.length 0),st.own.set k (.fam T b n (some (i,st.own.length)) F)++ .cells T (d.map (SV.ren0 λj=>some (st.own.length+1+j)))::QA b a⟩)
    else none
  |_=>none
 |_=>none
section
variable{E:Env}{B0:Nat}{X A:Nat->Prop}{w0:World}{nt:Nat}{st:St}{a:Act}{w:World}{μ:Mu}
theorem EP.add{w:World}{H:Nat->Prop}{μ:Mu}{tmps:Array Value}{ρ:List Entry}(h:EP w H μ tmps ρ){t:Nat}{s:SV}(hs:D w H μ s (tmps.getD t undef)):EP w H μ tmps (addE ρ t s):=by
 intro b e a;simp only[addE,CJ]at a;split at a
 .rename_i e1;cases a;unfold CZ;exact hs
 .exact h b e a
theorem c2z(h:SD E B0 X A w0 nt st a w μ){t:Nat}{pre:Prop}{st':St}(I:d43 E t st=some (pre,st'))(hp:pre):∃d,SD E B0 X A w0 nt st' a w d:=by
 unfold d43 at I;split at I;rotate_left
 .cases I
 rename_i t' ok k i g8;split at I;rotate_left
 .cases I
 rename_i T Z n F hk;split at I;rename_i cs y hF;split at I;rotate_left
 .cases I
 rename_i bc;obtain⟨bc,qf⟩:=bc;simp only[Id]at I;obtain⟨rfl,rfl⟩:=I;obtain⟨rfl,hi⟩:=hp;have dm:=h.env t _ g8;have j8:=MY g8;simp only at j8;subst j8;unfold CZ at dm;simp only at dm;generalize hv:a.tmps.getD t' undef=v at dm;cases dm with
 |fp Yr=>
 simp only[Ke]at Yr;obtain⟨R,J,b,o,vd,rfl⟩:=Yr;obtain⟨bl,e,ba⟩:=h.own.blk _ _ o;rw[hk]at e;cases e;obtain⟨S,qs',U,P,_⟩:=ba;simp only[Option.map_none]at P;obtain⟨rfl,rfl⟩:=Ow U;obtain⟨b',us,h1,h2,h3⟩:=P.mem i hi;rw[vd]at h1;cases h1;rcases h3 with⟨h3,_⟩|⟨_,z,rfl,V⟩
 .cases h3
 have m6:k<st.own.length:=(J4.1 hk).1;have bj:i<J.length:=by rw[P.ql];exact hi
 rw[hF]at V;let L:=st.own.length
 let d:Mu:=λj=>if j=k then some (BR R (J.set i []))else if j=L then some (.pointer (some ⟨b,0,none⟩))else if L<j then z[j-L-1]? else μ j
 have m1:d k=some (BR R (J.set i [])):=by simp[d]
 have m2:d L=some (.pointer (some ⟨b,0,none⟩)):=by simp[d,show¬L=k from Dv]
 have m3:∀j,L<j->d j=z[j-L-1]?:=λj f=>by simp[d,show¬j=k from Dv,show¬j=L from Dv,f]
 have m4:∀j,j≠k->j<L->d j=μ j:=λj h1 h2=>by simp[d,h1,show¬j=L from Dv,show¬L<j from Dv]
 have bh:∀{j x},d j=some x->(j=k/\x=BR R (J.set i []))\/(j=L/\x=.pointer (some ⟨b,0,none⟩))\/(L<j/\z[j-L-1]?=some x)\/(j≠k/\j<L/\μ j=some x):=by
  intro j x f;by_cases U:j=k
  .subst U;rw[m1]at f;exact .inl ⟨rfl,(K6 f).symm⟩
  .by_cases e2:j=L
   .subst e2;rw[m2]at f;exact .inr (.inl ⟨rfl,(K6 f).symm⟩)
   .by_cases e3:L<j
    .rw[m3 j e3]at f;exact .inr (.inr (.inl ⟨e3,f⟩))
    .rw[m4 j U Dv]at f;exact .inr (.inr (.inr ⟨U,Dv,f⟩))
 have b7:∀(j:Nat) (u:Value),z[j]?=some u->∃t r,Z[j]?=some t/\y[j]?=some r/\JI w (held A μ) (YK z) u t.1 t.2 r.1 r.2 none:=by intro j u M;have G:j<z.length:=(J4.1 M).1;have l1:=V.len;have l2:=V.rlen;simp only at l2;have g1:Z[j]?=some (Z[j]'Dv):=Iy _;have g2:y[j]?=some (y[j]'Dv):=Iy _;exact⟨_,_,g1,g2,V.rows j _ _ u g1 g2 M⟩
 have j8:∀(j:Nat) (u:Value),z[j]?=some u->∃a n m,u=.slice a n m:=λj u M=>by obtain⟨_,_,_,_,a,m,e,_⟩:=b7 j u M;exact⟨_,_,_,e⟩
 have B:∀{j x c},d j=some x->CN x c->(∃(N K:Nat) (l:List Value) (u:Value),J[N]?=some l/\l[K]?=some u/\FD u=some c/\((j=k/\N≠i)\/(j=L+K/\N=i)))\/(j≠k/\j<L/\μ j=some x):=by
  intro j x c f hx;rcases bh f with⟨rfl,rfl⟩|⟨rfl,rfl⟩|⟨G,M⟩|h4
  .obtain⟨l,u,g1,g2,q⟩:=OD.1 hx;obtain⟨N,b8⟩:=Kr.1 g1;obtain⟨K,Q⟩:=Kr.1 g2;obtain⟨U,e2⟩:=VI b8 Q;exact .inl ⟨N,K,l,u,e2,Q,q,.inl ⟨rfl,U⟩⟩
  .refine .inl ⟨i,0,_,_,h2,rfl,?_,.inr ⟨rfl,rfl⟩⟩;have e:=c5n.1 hx;simp only at e;subst e;rfl
  .obtain⟨a,n,m,rfl⟩:=j8 _ _ M;refine .inl ⟨i,j-L,_,_,h2,?_,Sv.1 hx,.inr ⟨Dv,rfl⟩⟩;rw[show j-L=(j-L-1)+1 from Dv];simpa using M
  .exact .inr h4
 have cq:∀{N K l u c},J[N]?=some l->l[K]?=some u->FD u=some c->CN (BR R J) c:=λg1 g2 q=>OD.2 ⟨_,_,J6 g1,J6 g2,q⟩;have bb:∀c,held A d c->held A μ c:=by
  rintro c (hc|⟨j,x,f,hx⟩)
  .exact .inl hc
  .rcases B f hx with⟨N,K,l,u,g1,g2,q,_⟩|⟨_,_,Q⟩
   .exact .inr ⟨k,_,o,cq g1 g2 q⟩
   .exact .inr ⟨j,x,Q,hx⟩
 have hμ:∀j x,μ j=some x->(∀R J,x≠BR R J)->d j=some x:=by
  intro j x f hx;have b9:j≠k:=λe=>by subst e;rw[o]at f;exact hx _ _ (K6 f).symm
  have G:j<L:=by
   rcases N9 j L with H|H
   .exact H
   .rw[h.fresh j H]at f;cases f
  rw[m4 j b9 G];exact f
 have hf:∀j W qs2,μ j=some (BR W qs2)->∃S qs',d j=some (BR S qs')/\∀(i:Nat) (p:Value),W[i]?=some p->S[i]?=some p:=by
  intro j W qs2 f;by_cases e:j=k
  .subst e;rw[o]at f;obtain⟨rfl,rfl⟩:=Ow (K6 f);exact⟨_,_,m1,λ_ _ h=>h⟩
  .have G:j<L:=by
    rcases N9 j L with H|H
    .exact H
    .rw[h.fresh j H]at f;cases f
   exact⟨_,_,(m4 j e G).trans f,λ_ _ h=>h⟩
 have hd:∀s v,D w (held A μ) μ s v->D w (held A d) d s v:=λs v h=>h.shift bb hμ hf;refine⟨d,⟨λj x f=> ?_,λj K x x' c f Q hx cm=> ?_,λj x c f hx=> ?_,h.own.bnd⟩,h.fr,h.base,λg s hg=>⟨(h.glo g s hg).1,hd _ _ (h.glo g s hg).2⟩,h.dfr,h.size,(h.env.shift hd).add (by rw[hv];exact .own m2),λj f=> ?_,λj x hx=> ?_⟩
 .rcases bh f with⟨rfl,rfl⟩|⟨rfl,rfl⟩|⟨G,M⟩|⟨b9,G,Q⟩
  .refine⟨.fam T Z n (some (i,L)) F,by rw[Jc (by simpa using m6)];simp[m6,L],R,J.set i [],rfl,⟨P.pl,by simp[P.ql],λY j1 i2 j2 C l u1 u2 c g1 g2 q O g5 g6=> ?_,λY dv=> ?_⟩,λN c' e=>by cases e;exact⟨_,vd,m2⟩⟩
   .exact P.nd Y j1 i2 j2 C l u1 u2 c (VI g1 g2).2 g2 q (VI O g5).2 g5 g6
   .obtain⟨b1,C,g1,g2,q⟩:=P.mem Y dv;by_cases e:i=Y
    .subst e;exact⟨b1,[],g1,H0,.inl ⟨rfl,rfl⟩⟩
    .refine⟨b1,C,g1,H1,.inr ⟨λe'=>e (K6 e'),?_⟩⟩;rcases q with⟨q,_⟩|⟨_,us3,e3,O⟩
     .cases q
     .exact⟨us3,e3,O.keep ⟨J9 _,λ_ _ _=>rfl,λc _=>bb c⟩ (λ_ _ _ _=>rfl)⟩
  .refine⟨_,by rw[Jm (by simp[L]),Kj,Ks];rfl,?_⟩;obtain⟨b2,vs,e2,hh,hl,db,hD⟩:=V.cells;cases e2;refine⟨b,vs,rfl,hh,E9,db,λj s v hs hv=> ?_⟩;simp only[Ih]at hs;obtain⟨s0,bu,rfl⟩:=hs;have W0:=hD j s0 v bu hv;have tp:=Ja.1 V.memc s0 (J6 bu);refine Ws bb (λkk jj x pk hx=> ?_) W0;simp only[Ju]at pk;subst pk;rw[m3 _ Dv,show L+1+kk-L-1=kk from Dv];exact hx
  .obtain⟨t,r,g1,g2,q⟩:=b7 _ _ M;refine⟨.row t.1 t.2 r.1 r.2 none,?_,q.shift (λs v pv hs=>HU bb hs pv)⟩;rw[Jm (by simp[L]at G⊢;omega),Kj,show j-st.own.length=(j-L-1)+1 by simp only[L]at G⊢;omega,La];have te:j-L-1<(QA Z y).length:=by rw[b0h _ _ bc];exact(J4.1 g1).1
   obtain⟨t',r',k1,k2,k3⟩:=b6f Z y _ _ (Iy te);rw[g1]at k1;rw[g2]at k2;cases k1;cases k2;rw[Iy te,k3]
  .obtain⟨bl,e,ba⟩:=h.own.blk j x Q;refine⟨bl,?_,ba.shift bb hμ hf⟩;rw[Jc (by simpa[L]using G),Jh (Ne.symm b9)];exact e
 .rcases B f hx with⟨Y,j1,C,u1,g1,g2,q,O⟩|⟨g1,g2,q⟩<;>rcases B Q cm with⟨i2,j2,l,u2,k1,k2,k3,k4⟩|⟨k1,k2,k3⟩
  .obtain⟨rfl,rfl⟩:=P.nd Y j1 i2 j2 C l u1 u2 c g1 g2 q k1 k2 k3;rcases O with⟨rfl,O⟩|⟨rfl,O⟩<;>rcases k4 with⟨rfl,k4⟩|⟨rfl,k4⟩
   .rfl
   .exact absurd k4 O
   .exact absurd O k4
   .rfl
  .exact absurd (h.own.inj K k x' _ c k3 o cm (cq g1 g2 q)) k1
  .exact absurd (h.own.inj j k x _ c q o hx (cq k1 k2 k3)) g1
  .exact h.own.inj j K x x' c q k3 hx cm
 .rcases B f hx with⟨Y,j1,C,u1,g1,g2,q,_⟩|⟨_,_,q⟩
  .exact h.own.rng k _ c o (cq g1 g2 q)
  .exact h.own.rng j x c q hx
 .simp only[Jx,Kj,Kh,b0h _ _ bc]at f;rw[m3 j (by simp only[L];omega)];exact L9 (by rw[V.len];simp only[L];omega)
 .have b9:j≠k:=λe=>Gy;have:=h.anc j x hx;have G:j<L:=by
   rcases N9 j L with H|H
   .exact H
   .rw[h.fresh j H]at this;cases this
  rw[m4 j b9 G];exact this
end
def selOK(E:Env)(own:List Blk)(ks:List Nat):Bool:=Rn ks&&ks.all (λk=>decide (k<own.length))&&decide (E.na<=ks.length)&&(List.range E.na).all λj=>ks.getD j 0==j
def gSel(E:Env)(ks:List Nat)(st:St):Option (Prop×St):=
 if selOK E st.own ks=true then some (True,⟨st.ρ.map λe=>{e with sv:=e.sv.ren2 λk=>BV k ks},ks.map λk=>(st.own.getD k .dead).ren λk=>BV k ks⟩)else none
section
variable{E:Env}{B0:Nat}{X A:Nat->Prop}{w0:World}{nt:Nat}{st:St}{a:Act}{w:World}{μ:Mu}
theorem c9r(h:SD E B0 X A w0 nt st a w μ){ks:List Nat}{r:Prop}{m:St}(l:gSel E ks st=some (r,m)):∃c,SD E B0 X A w0 nt m a w c:=by
 unfold gSel at l;split at l;rotate_left
 .cases l
 rename_i y;simp only[Id]at l;obtain⟨_,rfl⟩:=l;simp only[selOK,Ij]at y;obtain⟨⟨⟨C,bw⟩,ra⟩,F⟩:=y;have z:=b10 C;let c:Mu:=λj=>(ks[j]?).bind μ
 have n:∀{j x},c j=some x->∃k,ks[j]?=some k/\μ k=some x:=λd=>by simpa[c,J8]using d
 have u:∀k j x,BV k ks=some j->μ k=some x->c j=some x:=λk j x d i=>by have:=QR d;simp[c,this,i]
 have o:∀b,held A c b->held A μ b:=by
  rintro b (v|⟨j,x,d,hx⟩)
  .exact .inl v
  .obtain⟨k,_,i⟩:=n d;exact .inr ⟨k,x,i,hx⟩
 refine⟨c,⟨λj x d=> ?_,λj j' x G b d H hx I=> ?_,λj x b d hx=> ?_,h.own.bnd⟩,h.fr,h.base,λg s hs=>⟨(h.glo g s hs).1,HU o (h.glo g s hs).2 (h.glo g s hs).1⟩,h.dfr,h.size,λt e l=> ?_,λj d=> ?_,λj x hx=> ?_⟩
 .obtain⟨k,i,hx⟩:=n d;obtain⟨J,e,v⟩:=h.own.blk k x hx;refine⟨J.ren λk=>BV k ks,?_,v.ren o u⟩;simp[i,e]
 .obtain⟨k,i,K⟩:=n d;obtain⟨L,M,N⟩:=n H;have:=h.own.inj k L x G b K N hx I;subst this;have O:=b1b z i;have B:=b1b z M;rw[O]at B;cases B;rfl
 .obtain⟨k,_,i⟩:=n d;exact h.own.rng k x b i hx
 .rw[UU (f:=λ(e:Entry)=>{e with sv:=e.sv.ren2 λk=>BV k ks}) (λ_=>rfl),J7]at l;obtain⟨P,Q,rfl⟩:=l;have:=h.env t P Q;unfold CZ at this⊢;simp only;split at this
  .exact b1f o u this
  .exact⟨λq=>b1f o u (this.1 q),this.2⟩
 .simp only[Jv]at d;have:ks[j]?=none:=L9 d;simp[c,this]
 .have R:=Env.ak_lt (Env.an_ak hx);have d:=Ja.1 F j (by simpa using R);have S:ks[j]?=some j:=by
   rw[Iy Dv];simp only[Lr,In,Iy (show j<ks.length from Dv)]at d;rw[d]
  simp only[c,S,Lq];exact h.anc j x hx
end
def c4b(m:Nat)(T:TypeId)(b:List (TypeId×Nat))(st:St):Option (Prop×St):=match st.own[m]? with
 |some (.map K false a _)=>some (∀q,a q=false,⟨st.ρ,st.own.set m (.pmap K st.own.length (λ_=>false) (λ_=>0))++[.fam T b 0 none (λ_=>⟨[],[]⟩)]⟩)
 |_=>none
section
variable{E:Env}{B0:Nat}{X A:Nat->Prop}{w0:World}{nt:Nat}{st:St}{a:Act}{w:World}{μ:Mu}
theorem c0t(h:SD E B0 X A w0 nt st a w μ){m:Nat}{T:TypeId}{I:List (TypeId×Nat)}{l:Prop}{n:St}(o:c4b m T I st=some (l,n))(R:l):∃z,SD E B0 X A w0 nt n a w z:=by
 unfold c4b at o;split at o;rotate_left
 .cases o
 rename_i K B val J;simp only[Id]at o;obtain⟨rfl,rfl⟩:=o;have hmlt:m<st.own.length:=(J4.1 J).1;have S:=h.fresh st.own.length (J9 _);have U:μ.set st.own.length (BR [] []) st.own.length=some (BR [] []):=Ed;have f:∀{j x},μ j=some x->μ.set st.own.length (BR [] []) j=some x:=λ{j x} d=>by
  unfold Mu.set;split
  .rename_i e;rw[e,S]at d;cases d
  .exact d
 have t:∀{j x},μ.set st.own.length (BR [] []) j=some x->(j=st.own.length/\x=BR [] [])\/(j≠st.own.length/\μ j=some x):=by
  intro j x d;unfold Mu.set at d;split at d
  .exact .inl ⟨‹_›,(K6 d).symm⟩
  .exact .inr ⟨‹_›,d⟩
 have nohas:∀b,¬CN (BR [] []) b:=λb k=>by obtain⟨V,u,C,_⟩:=OD.1 k;simp at C
 have L:∀b,held A (μ.set st.own.length (BR [] [])) b->held A μ b:=by
  rintro b (k|⟨j,x,d,hx⟩)
  .exact .inl k
  .rcases t d with⟨_,rfl⟩|⟨_,y⟩
   .exact C9
   .exact .inr ⟨j,x,y,hx⟩
 have M:∀s v,D w (held A μ) μ s v->D w (held A (μ.set st.own.length (BR [] []))) (μ.set st.own.length (BR [] [])) s v:=λs v h=>h.shift L (λj x d _=>f d) (λj F G d=>⟨F,G,f d,λ_ _ h=>h⟩);refine⟨_,⟨λj x d=> ?_,λj N x W b d y hx O=> ?_,λj x b d hx=> ?_,h.own.bnd⟩,h.fr,h.base,λg s P=>⟨(h.glo g s P).1,M _ _ (h.glo g s P).2⟩,h.dfr,h.size,h.env.shift M,λj d=> ?_,λj x hx=>f (h.anc j x hx)⟩
 .rcases t d with⟨rfl,rfl⟩|⟨b9,y⟩
  .refine⟨.fam T I 0 none (λ_=>⟨[],[]⟩),Dx,[],[],rfl,⟨rfl,rfl,λi j i' N V us' u u' b C=>by simp at C,λi Y=>absurd Y (Jq _)⟩,λi c e=>E3⟩
  .obtain⟨Z,e,k⟩:=h.own.blk j x y;have H:j<st.own.length:=(J4.1 e).1;by_cases Q:j=m
   .subst Q;rw[J]at e;cases e;obtain⟨r,g,rfl,qz,_,_⟩:=k;have:B=λ_=>false:=Mw R;subst this;exact⟨.pmap K st.own.length (λ_=>false) (λ_=>0),by rw[Jc (by simpa using H)];simp[H],⟨_,_,U⟩,r,g,rfl,qz,λq hq=>by cases hq⟩
   .refine⟨Z,by rw[Jc (by simpa using H),Jh (Ne.symm Q)];exact e,k.shift L (λj x d _=>f d) (λj F G d=>⟨F,G,f d,λ_ _ h=>h⟩)⟩
 .rcases t d with⟨rfl,rfl⟩|⟨_,g1⟩<;>rcases t y with⟨rfl,rfl⟩|⟨_,g2⟩
  .rfl
  .exact C9
  .exact absurd O (nohas b)
  .exact h.own.inj j N x W b g1 g2 hx O
 .rcases t d with⟨rfl,rfl⟩|⟨_,g1⟩
  .exact C9
  .exact h.own.rng j x b g1 hx
 .simp only[Ip,Kj]at d;unfold Mu.set;rw[J3 Dv];exact C7
end
def Xe(own:List Blk):Nat->List (TypeId×Nat)->Option (List (Nat×(Nat->List SV)))
 |_,[]=>some []
 |c,t::a=>match own[c]? with
  |some (.row T b n f _)=>if T=t.1/\b=t.2 then(Xe own (c+1) a).map λr=>(n,f)::r else none
  |_=>none
theorem b3u{own:List Blk}:∀(ts:List (TypeId×Nat)) (c:Nat) (a:List (Nat×(Nat->List SV))),Xe own c ts=some a->a.length=ts.length/\∀(j:Nat) (t:TypeId×Nat),ts[j]?=some t->∃r b,a[j]?=some r/\own[c+j]?=some (.row t.1 t.2 r.1 r.2 b)
 | [],c,a,h=>by simp[Xe]at h;subst h;exact⟨rfl,λj t h=>E6⟩
 |t::ts,c,a,h=>by
  simp only[Xe]at h;split at h;rotate_left
  .cases h
  rename_i T sz n f b g;split at h;rotate_left
  .cases h
  rename_i e;obtain⟨rfl,rfl⟩:=e;simp only[J7]at h;obtain⟨r,i,rfl⟩:=h;obtain⟨h1,k⟩:=b3u ts (c+1) r i;refine⟨En,λj l ht=> ?_⟩;match j with
  |0=>simp at ht;subst ht;exact⟨(n,f),b,rfl,g⟩
  |j+1=>
   obtain⟨m,d,o,q⟩:=k j l F9;exact⟨m,d,by simpa using o,by rw[show c+(j+1)=c+1+j from Dv];exact q⟩
def RF(j:Nat):SV->Bool
 |.osl q=>q==j
 |_=>false
def VY(c m q:Nat):Option Nat:=if EJ c m q&&decide (c<q)then some (q-c-1)else none
def c0g(E:Env)(k:Nat)(st:St):Option (Prop×St):=match st.own[k]? with
 |some (.fam T a n (some (i,c)) F)=>match st.own[c]? with
  |some (.cells h g)=>(Xe st.own (c+1) a).bind λf=>
   if h=T/\(g.map (SV.ren0 (VY c a.length))).all SV.memc=true/\((List.range a.length).all λj=>(g.map (SV.ren0 (VY c a.length))).any (RF j))=true/\EJ c a.length k=false/\((List.range (a.length+1)).all λd=> !E.ak (c+d))=true/\E.ak k=false then
    some (True,⟨st.ρ.map λe=>{e with sv:=e.sv.uf2 c a.length},
     Qr (λq b=>if q=k then .fam T a n none (λj=>if j=i then⟨g.map (SV.ren0 (VY c a.length)),f⟩else F j)else if EJ c a.length q=true then .dead else b.uf c a.length) 0 st.own⟩)
   else none
  |_=>none
 |_=>none
section
variable{E:Env}{B0:Nat}{X A:Nat->Prop}{w0:World}{nt:Nat}{st:St}{a:Act}{w:World}{μ:Mu}
theorem b79(h:SD E B0 X A w0 nt st a w μ){k:Nat}{pre:Prop}{st':St}(J:c0g E k st=some (pre,st')):∃μ',SD E B0 X A w0 nt st' a w μ':=by
 unfold c0g at J;split at J;rotate_left
 .cases J
 rename_i T Z n i c F hk;split at J;rotate_left
 .cases J
 rename_i Tc cs hc;simp only[J8]at J;obtain⟨R,hrows,J⟩:=J;split at J;rotate_left
 .cases J
 rename_i du;obtain⟨rfl,tp,bw,hkr,jp,qf⟩:=du;simp only[Id]at J;obtain⟨_,rfl⟩:=J;obtain⟨r1,r2⟩:=b3u Z (c+1) R hrows;let m:=Z.length
 have M:∀y,EJ c m y=true->E.ak y=false:=λy hy=>by simp only[EJ,Ij]at hy;have:=Ja.1 jp (y-c) E5;rw[show c+(y-c)=y from Dv]at this;simpa using this
 have S:∀y,st.own.length<=y->μ y=none:=h.fresh;cases hμk:μ k with
 |none=>
  let μ':Mu:=λy=>if EJ c m y=true then none else μ y
  have U:∀{y x},μ' y=some x->EJ c m y=false/\μ y=some x:=by
   intro y x hy;simp only[μ']at hy;split at hy
   .cases hy
   .exact⟨by simpa using ‹¬ EJ c m y=true›,hy⟩
  have bg:∀{y},EJ c m y=false->μ' y=μ y:=λhy=>by simp[μ',hy]
  have V:∀b,held A μ' b->held A μ b:=by
   rintro b (hb|⟨y,x,hy,hx⟩)
   .exact .inl hb
   .exact .inr ⟨y,x,(U hy).2,hx⟩
  have di:Drop c m (held A μ) (held A μ') μ μ':=⟨V,λy x hy hx _=>by rw[bg hy];exact hx,λy W K hy hx=>⟨W,K,by rw[bg hy];exact hx,λ_ _ h=>h⟩⟩
  refine⟨μ',⟨λy x hy=> ?_,λy y' x O b hy j6=>h.own.inj y y' x O b (U hy).2 (U j6).2,λy x b hy=>h.own.rng y x b (U hy).2,h.own.bnd⟩,h.fr,h.base,λg s L=>⟨(h.glo g s L).1,HU V (h.glo g s L).2 (h.glo g s L).1⟩,h.dfr,h.size,h.env.drop di,λy hy=> ?_,λy x hx=> ?_⟩
  .obtain⟨v9,Zr⟩:=U hy;obtain⟨bl,e,hb⟩:=h.own.blk y x Zr;have Q5:y≠k:=λe=>by subst e;rw[hμk]at Zr;cases Zr
   refine⟨bl.uf c m,?_,hb.drop di⟩;rw[Xu,e];simp only[Kv,Kb];rw[J3 Q5,J3 (by rw[show EJ c Z.length y=EJ c m y from rfl,v9];simp)]
  .rw[Tb]at hy;simp only[μ'];split
   .rfl
   .exact S y hy
  .have:EJ c m y=false:=by
    cases hh:EJ c m y with
    |false=>rfl
    |true=>have:=M y hh;rw[Env.an_ak hx]at this;cases this
   rw[bg this];exact h.anc y x hx
 |some xk=>
 obtain⟨bl,e,ba⟩:=h.own.blk _ _ hμk;rw[hk]at e;cases e;obtain⟨W,K,rfl,cu,hhole⟩:=ba;obtain⟨p,vd,Y⟩:=hhole i c rfl;simp only[Kb]at cu;have hi:i<n:=by rw[<-cu.pl];exact(J4.1 vd).1
 have bj:i<K.length:=by rw[cu.ql];exact hi
 obtain⟨bl,e,hokc⟩:=h.own.blk _ _ Y;rw[hc]at e;cases e;obtain⟨b,vs,rfl,hh,hl,db,hd⟩:=hokc;have hslice:∀j,j<m->∃u,μ (c+1+j)=some u/\(∃a n m,u=.slice a n m):=by
  intro j hj;have h1:=Ja.1 bw j (by simpa[m]using hj);simp only[Jj,Jp]at h1;obtain⟨s,⟨s0,bu,rfl⟩,hs⟩:=h1;obtain⟨ii,Ys⟩:=Kr.1 bu;have b6:ii<vs.length:=by rw[hl];exact(J4.1 Ys).1
  have hD:=hd ii s0 _ Ys (Iy b6);cases s0 with
  |osl q=>
   simp only[SV.ren0,SV.ren00]at hs;split at hs
   .rename_i j' bm;simp only[RF,Lr]at hs;subst hs;simp only[VY]at bm;split at bm
    .rename_i hq;simp only[Ij]at hq;cases bm;have W0:=hD;generalize vs[ii]=vv at W0;cases W0 with
     |osl kg=>exact⟨_,by rw[show c+1+(q-c-1)=q from Dv];exact kg,_,_,_,rfl⟩
    .cases bm
   .simp[RF]at hs
  |own q o=>simp only[SV.ren0,SV.ren00]at hs;split at hs<;>simp[RF]at hs
  |omp q=>simp only[SV.ren0,SV.ren00]at hs;split at hs<;>simp[RF]at hs
  |oel q sz x o=>simp only[SV.ren0,SV.ren00]at hs;split at hs<;>simp[RF]at hs
  |fp ok q x o=>simp only[SV.ren0,SV.ren00]at hs;split at hs<;>simp[RF]at hs
  |clo f cs'=>simp[SV.ren0,RF]at hs
  |_=>simp[SV.ren0,SV.ren00,RF]at hs
 let I:List Value:=(List.range m).map λj=>(μ (c+1+j)).getD undef
 have ke:∀j u,I[j]?=some u↔j<m/\μ (c+1+j)=some u:=by
  intro j u;simp only[I,Jr];constructor
  .intro hj;simp only[J7]at hj;obtain⟨y,hy,rfl⟩:=hj;obtain⟨v9,rfl⟩:=J4.1 hy;simp only[List.length_range]at v9;simp only[List.getElem_range];obtain⟨u,hu,_⟩:=hslice j v9;exact⟨v9,by rw[hu];rfl⟩
  .rintro⟨h1,P⟩;rw[Iy Es];simp[P]
 let l:List Value:=.pointer (some ⟨b,0,none⟩)::I
 let μ':Mu:=λy=>if y=k then some (BR W (K.set i l))else if EJ c m y=true then none else μ y
 have m1:μ' k=some (BR W (K.set i l)):=by simp[μ']
 have m3:∀y,y≠k->EJ c m y=false->μ' y=μ y:=λy h1 P=>by simp[μ',h1,P]
 have U:∀{y x},μ' y=some x->(y=k/\x=BR W (K.set i l))\/(y≠k/\EJ c m y=false/\μ y=some x):=by
  intro y x hy;by_cases e1:y=k
  .exact Da
  .cases C:EJ c m y with
   |true=>simp[μ',e1,C]at hy
   |false=>rw[m3 y e1 C]at hy;exact .inr ⟨e1,rfl,hy⟩
 have fe:∀(j:Nat) (u:Value) (d:Nat),l[j]?=some u->FD u=some d->j<=m/\∃x,μ (c+j)=some x/\CN x d:=by
  intro j u d h1 P;match j with
  |0=>
   simp only[l,Mp,Ju]at h1;subst h1;exact⟨Je _,_,Y,.inl P⟩
  |j+1=>
   simp only[l,La]at h1;obtain⟨h3,h4⟩:=(ke j u).1 h1;exact⟨h3,u,by rw[show c+(j+1)=c+1+j from Dv];exact h4,.inl P⟩
 have wn:∀{j},j<=m->EJ c m (c+j)=true:=λhj=>by simp[EJ];omega
 have dt:∀{Q us},(K.set i l)[Q]?=some us->(Q=i/\us=l)\/(Q≠i/\K[Q]?=some us):=by
  intro Q us L;by_cases e:i=Q
  .subst e;rw[K4 bj]at L;exact .inl ⟨rfl,(K6 L).symm⟩
  .rw[Jh e]at L;exact .inr ⟨Ne.symm e,L⟩
 have cq:∀{Q j' N u d},K[Q]?=some N->N[j']?=some u->FD u=some d->CN (BR W K) d:=λg1 G B=>OD.2 ⟨_,_,J6 g1,J6 G,B⟩;have H:∀{y x d},μ' y=some x->CN x d->(y=k/\CN (BR W K) d)\/(y=k/\∃z O,EJ c m z=true/\μ z=some O/\CN O d)\/(y≠k/\EJ c m y=false/\μ y=some x):=by
  intro y x d hy hx;rcases U hy with⟨rfl,rfl⟩|h3
  .obtain⟨N,u,g1,G,B⟩:=OD.1 hx;obtain⟨Q,b8⟩:=Kr.1 g1;obtain⟨j',bm⟩:=Kr.1 G;rcases dt b8 with⟨rfl,rfl⟩|⟨_,g4⟩
   .obtain⟨g5,O,g6,g7⟩:=fe j' u d bm B;exact .inr (.inl ⟨rfl,_,O,wn g5,g6,g7⟩)
   .exact .inl ⟨rfl,cq g4 bm B⟩
  .exact .inr (.inr h3)
 have V:∀d,held A μ' d->held A μ d:=by
  rintro d (dj|⟨y,x,hy,hx⟩)
  .exact .inl dj
  .rcases H hy hx with⟨_,h1⟩|⟨_,z,O,_,h1,P⟩|⟨_,_,h3⟩
   .exact .inr ⟨k,_,hμk,h1⟩
   .exact .inr ⟨z,O,h1,P⟩
   .exact .inr ⟨y,x,h3,hx⟩
 have di:Drop c m (held A μ) (held A μ') μ μ':=by
  refine⟨V,λy x hy hx T8=> ?_,λy ps2 qs2 hy hx=> ?_⟩
  .have C:y≠k:=λe=>Hs;rw[m3 y C hy];exact hx
  .by_cases C:y=k
   .subst C;rw[hμk]at hx;obtain⟨rfl,rfl⟩:=Ow (K6 hx);exact⟨_,_,m1,λ_ _ h=>h⟩
   .exact⟨ps2,qs2,(m3 y C hy).trans hx,λ_ _ h=>h⟩
 have R3:∀z,EJ c m z=true->z≠k:=λz hz e=>by subst e;rw[show EJ c m z=EJ c Z.length z from rfl,hkr]at hz;cases hz
 refine⟨μ',⟨λy x hy=> ?_,λy y' x O d hy j6 hx cm=> ?_,λy x d hy hx=> ?_,h.own.bnd⟩,h.fr,h.base,λg s L=>⟨(h.glo g s L).1,HU V (h.glo g s L).2 (h.glo g s L).1⟩,h.dfr,h.size,h.env.drop di,λy hy=> ?_,λy x hx=> ?_⟩
 .rcases U hy with⟨rfl,rfl⟩|⟨Q5,hyr,j6⟩
  .refine⟨.fam Tc Z n none (λj=>if j=i then⟨cs.map (SV.ren0 (VY c Z.length)),R⟩else F j),by rw[Xu,hk];simp,W,K.set i l,rfl,⟨cu.pl,by simp[cu.ql],λi1 j1 i2 j2 us1 N u1 u2 d g1 G B g4 g5 g6=> ?_,λi1 dv=> ?_⟩,λi c e=>E3⟩
   .rcases dt g1 with⟨rfl,rfl⟩|⟨e1,k1⟩<;>rcases dt g4 with⟨rfl,rfl⟩|⟨C,k4⟩
    .obtain⟨a1,x1,a2,a3⟩:=fe j1 u1 d G B;obtain⟨b1,x2,b2,b3⟩:=fe j2 u2 d g5 g6;have:=h.own.inj _ _ x1 x2 d a2 b2 a3 b3;exact⟨rfl,Dv⟩
    .obtain⟨a1,x1,a2,a3⟩:=fe j1 u1 d G B;exact absurd (h.own.inj _ _ x1 _ d a2 hμk a3 (cq k4 g5 g6)) (R3 _ (wn a1))
    .obtain⟨a1,x1,a2,a3⟩:=fe j2 u2 d g5 g6;exact absurd (h.own.inj _ _ x1 _ d a2 hμk a3 (cq k1 G B)) (R3 _ (wn a1))
    .exact cu.nd i1 j1 i2 j2 us1 N u1 u2 d k1 G B k4 g5 g6
   .obtain⟨b1,us1,g1,G,B⟩:=cu.mem i1 dv;by_cases e:i1=i
    .subst e;rw[vd]at g1;cases g1;refine⟨b,l,vd,H0,.inr ⟨Dx,I,rfl,?_⟩⟩;rw[Iz rfl];refine⟨⟨b,vs,rfl,hh,E9,db,λj s v hs hv=> ?_⟩,tp,by simp[I,m],r1,λj t r u h1 P h3=> ?_⟩
     .simp only[Ih]at hs;obtain⟨s0,bu,rfl⟩:=hs;refine Ws V (λkk jj x pk hx=> ?_) (hd j s0 v bu hv);simp only[VY]at pk;split at pk
      .rename_i hq;simp only[EJ,Ij]at hq;cases pk;exact(ke _ _).2 ⟨by simp only[m];omega,by rw[show c+1+(kk-c-1)=kk from Dv];exact hx⟩
      .cases pk
     .obtain⟨h4,h5⟩:=(ke j u).1 h3;obtain⟨r',cp,h6,h7⟩:=r2 j t h1;rw[P]at h6;cases h6;obtain⟨bl,e,hb⟩:=h.own.blk _ _ h5;rw[show c+1+j=c+1+j from rfl,h7]at e;cases e;have:=JI.shift (μ':=YK I) (λs v hp hs=>HU V hs hp) hb;obtain⟨a1,a2,a3,a4,a5,a6,a7,a8⟩:=this;exact⟨a1,a2,a3,a4,a5,.inl rfl,a7,a8⟩
    .refine⟨b1,us1,g1,by rw[Jh (Ne.symm e)];exact G,.inr ⟨Dx,?_⟩⟩;rw[J3 e];rcases B with⟨B,_⟩|⟨_,us3,e3,g4⟩
     .exact absurd (K6 B).symm e
     .exact⟨us3,e3,g4.keep ⟨J9 _,λ_ _ _=>rfl,λd _=>V d⟩ (λ_ _ _ _=>rfl)⟩
  .obtain⟨bl,e,hb⟩:=h.own.blk y x j6;refine⟨bl.uf c m,?_,hb.drop di⟩;rw[Xu,e];simp only[Kv,Kb];rw[J3 Q5,J3 (by rw[show EJ c Z.length y=EJ c m y from rfl,hyr];simp)]
 .rcases H hy hx with⟨e1,g1⟩|⟨e1,z,xz,g1,G,B⟩|⟨e1,e1',g1⟩<;>rcases H j6 cm with⟨C,k1⟩|⟨C,z',xz',k1,k2,k3⟩|⟨C,e2',k1⟩
  .omega
  .omega
  .exact absurd (h.own.inj y' k _ _ d k1 hμk cm g1) C
  .omega
  .omega
  .have:=h.own.inj y' z _ _ d k1 G cm B;subst this;rw[g1]at e2';cases e2'
  .exact absurd (h.own.inj y k _ _ d g1 hμk hx k1) e1
  .have:=h.own.inj y z' _ _ d g1 k2 hx k3;subst this;rw[k1]at e1';cases e1'
  .exact h.own.inj y y' x O d g1 k1 hx cm
 .rcases H hy hx with⟨e1,g1⟩|⟨e1,z,xz,g1,G,B⟩|⟨e1,e1',g1⟩
  .exact h.own.rng k _ d hμk g1
  .exact h.own.rng z _ d G B
  .exact h.own.rng y x d g1 hx
 .rw[Tb]at hy;have m6:k<st.own.length:=(J4.1 hk).1;simp only[μ'];rw[J3 Dv];split
  .rfl
  .exact S y hy
 .have e1:y≠k:=λe=>Gy;have C:EJ c m y=false:=by
   cases hh:EJ c m y with
   |false=>rfl
   |true=>have:=M y hh;rw[Env.an_ak hx]at this;cases this
  rw[m3 y e1 C];exact h.anc y x hx
end
def g1i(k:Nat)(st:St):Option (Prop×St):=match st.own[k]? with
 |some (.rowh T a n f c i u)=>if u.all SV.pure then some (True,⟨st.ρ,st.own.set k (.row T a n (λq=>DC (decide (q=i)) u (f q)) c)⟩)else none
 |_=>none
section
variable{E:Env}{B0:Nat}{X A:Nat->Prop}{w0:World}{nt:Nat}{st:St}{a:Act}{w:World}{μ:Mu}
theorem c4x(h:SD E B0 X A w0 nt st a w μ){k:Nat}{l:Prop}{g:St}(d:g1i k st=some (l,g)):SD E B0 X A w0 nt g a w μ:=by
 unfold g1i at d;split at d;rotate_left
 .cases d
 rename_i T sz n f c i u t;split at d;rotate_left
 .cases d
 rename_i C;simp only[Id]at d;obtain⟨_,rfl⟩:=d;have F:k<st.own.length:=(J4.1 t).1;refine⟨⟨λj x hj=> ?_,h.own.inj,h.own.rng,h.own.bnd⟩,h.fr,h.base,h.glo,h.dfr,h.size,h.env,λj hj=>h.fresh j Em,h.anc⟩;obtain⟨G,e,y⟩:=h.own.blk j x hj;by_cases z:j=k
 .subst z;rw[t]at e;cases e;refine⟨_,by rw[K4 F],?_⟩;obtain⟨b,o,m,H,rfl,I,J,K,hi,L,M,N,O,P,Q,R⟩:=y;refine DK.row_weak (f:=λq=>if q=i then u else f q) (λq=>by have:=YU (decide (q=i)) u (f q);simpa only[Jb]using this) ⟨_,m,rfl,I,J,K,λq r=> ?_,.inr ⟨b,o,H,Dv,rfl,N,O,P,λq j s v r hs B=> ?_⟩⟩
  .by_cases e:q=i
   .subst e;simp only[Ke];exact⟨L,C⟩
   .simp only[J3 e];exact M q r e
  .by_cases e:q=i
   .subst e;simp only[Ke]at hs;exact R j s v hs B
   .simp only[J3 e]at hs;exact Q q j s v r e hs B
 .exact⟨G,by rw[Jh (Ne.symm z)];exact e,y⟩
end
def rdy(ops:Array Oper)(done:List Nat):List Nat:=
 (List.range ops.size).filter λi=> !done.contains i&&((ops[i]?).map (λo=>o.after.toList.all λe=> !Region.binds .any e||done.contains e.on)).getD false
def Wl(P:Program){α:Type}(s:Sem α):Prop:=∀w a c,s.run P w=.ok a c->∀b,s.run P b=.ok a b
section
variable{P:Program}{α β:Type}
theorem OT(a:α):Wl P (pure a:Sem α):=λw b w1 h w'=>by simp only[Sem.run_pure,Result.ok.injEq]at h⊢;exact⟨h.1,J5⟩
theorem OX{s:Sem α}{k:α->Sem β}(e:Wl P s)(f:∀a,Wl P (k a)):Wl P (s >>= k):=λw b w1 h c=>by
 rw[Kt]at h⊢;cases hs:s.run P w with
 |ok a d=>
  rw[hs]at h;rw[e w a d hs c];exact f a _ _ _ h c
 |halt x d=>rw[hs]at h;cases h
theorem Td(x:Halt):Wl P (Sem.halt x:Sem α):=λw a w1 h=>by simp[Sem.run]at h
theorem b88:Wl P program:=λw a w1 h w'=>by simp only[program,Sem.run,Result.ok.injEq]at h⊢;exact⟨h.1,J5⟩
theorem b2k(t:TypeId):Wl P (underlying t):=OX b88 λp=>by
 split
 .exact OT _
 .exact Td _
theorem f9r(t:TypeId):Wl P (typeInfo t):=OX b88 λp=>by
 split
 .exact OT _
 .exact Td _
theorem d5p(t:TypeId):Wl P (sizeOf t):=OX (f9r t) λ_=>OT _
def Nv(P:Program)(s:Sem α):Prop:=∀w a b,s.run P w≠.ok a b
theorem Nv.wl{s:Sem α}(h:Nv P s):Wl P s:=λw a b e=>absurd e (h w a b)
theorem c04{s:Sem α}{k:α->Sem β}(h:∀a,Nv P (k a)):Nv P (s >>= k):=λw b w1 e=>by
 rw[Kt]at e;cases hs:s.run P w with
 |ok a c=>rw[hs]at e;exact h a _ _ _ e
 |halt x c=>rw[hs]at e;cases e
theorem d6m(x:Halt):Nv P (Sem.halt x:Sem α):=λw a w1 h=>by simp[Sem.run]at h
theorem nv_rt(e:RuntimeError):Nv P (runtimePanic e:Sem α):=c04 λp=>by
 split;all_goals first
  |exact d6m _
  |exact c04 λ_=>c04 λ_=>d6m _
theorem c18(k:IntKind)(x y:Int)(c:BoundsCode):Wl P (boundsPanic k x y c:Sem α):=by unfold boundsPanic;dsimp only;split;all_goals exact Nv.wl (c04 λ_=>nv_rt _)
theorem c5q(v:Value):Wl P (asIntOf v):=by
 unfold asIntOf;split
 .exact OT _
 .exact Td _
 .exact Td _
theorem d3h(v:Value):Wl P (Instr.sureAddr v):=by
 unfold Instr.sureAddr;split
 .exact OT _
 .exact Td _
theorem d8t(t:TypeId)(x i:Value):Wl P (Instr.indexAt t x i):=by
 unfold Instr.indexAt;refine OX (c5q _) λq=>OX (b2k _) λd=> ?_;dsimp only;repeat' first
  |exact OT _
  |exact Td _
  |exact c18 _ _ _ _
  |exact d3h _
  |exact b2k _
  |exact d5p _
  |refine OX ?_ λ_=> ?_
  |split
theorem d84(x:Value)(y:Nat)(c:BoundsCode):Wl P (Instr.sliceBound x y c):=by
 unfold Instr.sliceBound;refine OX (c5q _) λq=> ?_;dsimp only;repeat' first
  |exact OT _
  |exact c18 _ _ _ _
  |split
theorem c9q(b:Bool)(n m:Nat)(lo hi mx:Option Value):Wl P (Instr.sliceBounds b n m lo hi mx):=by
 unfold Instr.sliceBounds;dsimp only;repeat' first
  |exact OT _
  |exact Td _
  |exact d84 _ _ _
  |refine OX ?_ λ_=> ?_
  |split
def WA(P:Program)(o:Oper):Bool:=match o.guard with
 |some _=>false
 |none=>match o.op with
  |.move _=>true
  |.indexAddr _ _ _=>true
  |.slice t _ _ _ _=>match P.underlying t with
   |some (.slice _)=>true
   |_=>false
  |.fieldAddr s _ f=>match P.underlying s with
   |some (.struct a)=>match a[f]? with
    |some b=>match P.info? b.type with
     |some i=> !Nat.beq i.size 0
     |none=>false
    |none=>false
   |_=>false
  |_=>false
theorem c46{t:TypeId}{d:TypeDesc}{w:World}(h:P.underlying t=some d):(underlying t).run P w=.ok d w:=by simp[underlying,program,Sem.run,h,Result.andThen]
theorem f1v{s:TypeId}{x:Value}{f:Nat}{fs:Array Field}{b:Field}{i:TypeInfo}(e:P.underlying s=some (.struct fs))(g:fs[f]?=some b)(j:P.info? b.type=some i)(k:i.size≠0):Wl P (Instr.fieldAt s x f):=by
 intro w a d h c;unfold Instr.fieldAt at h⊢;rw[Kt,c46 e]at h⊢;simp only[Result.andThen,g]at h⊢;have:Wl P (do let a<-Instr.sureAddr x;pure (.pointer (some (<-fieldPlace a b))):Sem Value):=by refine OX (d3h _) λq=>OX ?_ λ_=>OT _;intro w a d h c;unfold fieldPlace at h⊢;rw[Kt,HY j]at h⊢;simp only[Result.andThen,J3 k]at h⊢;exact OT _ _ _ _ h c
 exact this w a d h c
theorem d9y{t e:TypeId}{x:Value}{lo hi mx:Option Value}(c:P.underlying t=some (.slice e)):Wl P (Instr.sliceAt t x lo hi mx):=by
 intro w a d h b;unfold Instr.sliceAt at h⊢;rw[Kt,c46 c]at h⊢;simp only[Result.andThen]at h⊢;have:Wl P (Instr.slice t x lo hi mx):=by
  intro w a d h b;unfold Instr.slice at h⊢;rw[Kt,c46 c]at h⊢;simp only[Result.andThen]at h⊢;cases x
  case slice a n m=>exact(OX (c9q _ _ _ _ _ _) λq=>OX (d5p _) λ_=>OT _:Wl P _) _ _ _ h b
  all_goals simp[stuck]at h
 exact this w a d h b
theorem d2x{o:Oper}(a:WA P o=true){ev:Operand->Value}{w:World}:(∃v,∀c,(execOp ev o).run P c=.ok (.value v) c)\/∃x d,(execOp ev o).run P w=.halt x d:=by
 have b:∀{s:Sem Value},Wl P s->execOp ev o=(do pure (.value (<-s)))->(∃v,∀c,(execOp ev o).run P c=.ok (.value v) c)\/∃x d,(execOp ev o).run P w=.halt x d:=by
  intro s hs e;rw[e,Kt];cases hr:s.run P w with
  |ok v d=>
   refine .inl ⟨v,λc=> ?_⟩;rw[Kt,hs _ _ _ hr c];simp[Result.andThen]
  |halt x d=>exact .inr ⟨x,d,rfl⟩
 unfold WA at a;split at a
 .cases a
 split at a
 .rename_i x cy;exact b (s:=pure (ev x)) (OT _) Gd
 .rename_i t x i cy;exact b (d8t t (ev x) (ev i)) Gd
 .rename_i t x lo hi mx cy;split at a
  .rename_i e g;exact b (d9y (lo:=lo.map ev) (hi:=hi.map ev) (mx:=mx.map ev) (x:=ev x) g) Gd
  .cases a
 .rename_i s x f cy;split at a
  .rename_i fs j;split at a
   .rename_i fd k;split at a
    .rename_i i l;refine b (f1v (x:=ev x) j k l ?_) Gd;intro e;rw[e]at a;cases a
    .cases a
   .cases a
  .cases a
 .cases a
end
def Uz(ops:Array Oper)(x:Oper)(i:Nat):List Oper->Nat->Bool
 | [],_=>true
 |y::r,j=>(Nat.beq j i||FB y i||FB x j||x.apart ops y)&&Uz ops x i r (j+1)
def Th(P:Program)(ops:Array Oper):List Oper->Nat->List Nat
 | [],_=>[]
 |x::r,i=>match WA P x&&Uz ops x i ops.toList 0 with
  |true=>i::Th P ops r (i+1)
  |false=>Th P ops r (i+1)
def f1f:List Oper->Bool
 | []=>true
 |o::r=>match o.op with
  |.select _ _=>false
  |_=>f1f r
theorem c16:∀{l:List Oper},f1f l=true->∀o∈l,∀a b,o.op≠.select a b
 | [],_,o,h,_,_=>E8
 |x::r,c,o,h,a,b=>by
  unfold f1f at c;split at c
  .cases c
  .rename_i hx;rcases Jd.1 h with rfl|h
   .exact λe=>hx a b e
   .exact c16 c o h a b
def d4m(P:Program)(ops:Array Oper):List Nat:=match f1f ops.toList with
 |true=>Th P ops ops.toList 0
 |false=>[]
theorem b7n{ops:Array Oper}{x:Oper}{i:Nat}:∀{l:List Oper} {n:Nat},Uz ops x i l n=true->∀{j y},l[j]?=some y->n+j≠i->FB y i=true\/FB x (n+j)=true\/x.apart ops y=true
 | [],_,_,_,_,h=>E6
 |z::r,n,a,j,y,h=>by
  unfold Uz at a;rw[Jt]at a;intro b;cases j with
  |zero=>
   simp only[Mp,Ju]at h;subst h;simp only[K1,Nat.beq_eq]at a;rcases a.1 with((h|h)|h)|h
   .exact absurd h b
   .exact .inl h
   .exact .inr (.inl h)
   .exact .inr (.inr h)
  |succ j=>
   have:=b7n a.2 (j:=j) (y:=y) E2 Dv;rw[show n+1+j=n+(j+1)from Dv]at this;exact this
theorem b6w{P:Program}{ops:Array Oper}:∀{l:List Oper} {n i:Nat},i∈Th P ops l n->∃x,n<=i/\l[i-n]?=some x/\WA P x=true/\Uz ops x i ops.toList 0=true
 | [],_,_,h=>by simp[Th]at h
 |z::r,n,i,h=>by
  have a:i∈Th P ops r (n+1)->∃x,n<=i/\(z::r)[i-n]?=some x/\WA P x=true/\Uz ops x i ops.toList 0=true:=λh=>by obtain⟨x,h1,c,d⟩:=b6w h;refine⟨x,Dv,?_,d⟩;rw[show i-n=(i-(n+1))+1 from Dv];simpa using c
  unfold Th at h;split at h
  .rename_i b;rcases Jd.1 h with rfl|h
   .rw[Jt]at b;exact⟨z,J9 _,Dx,b.1,b.2⟩
   .exact a h
  .exact a h
def Yb(ops:Array Oper)(q done:List Nat):List Nat:=match (rdy ops done).find? (λi=>q.contains i)with
 |some i=>[i]
 |none=>rdy ops done
def andL:List Nat->(Nat->Prop)->Prop
 | [],_=>True
 |i::r,f=>f i/\andL r f
theorem c6u{f:Nat->Prop}:∀{l:List Nat},andL l f->∀i∈l,f i
 | [],_,i,a=>by simp at a
 |x::r,h,i,a=>by
  rcases Jd.1 a with rfl|a
  .exact h.1
  .exact c6u h.2 i a
def YW(E:Env)(nt:Nat)(ops:Array Oper)(q:List Nat)(K:St->Prop):Nat->List Nat->St->Prop
 |0,done,a=>match rdy ops done with
  | []=>K a
  |_::_=>False
 |f+1,done,a=>Vk (Yb ops q done) λl=>match l with
  | []=>K a
  |i::r=>andL (i::r) λi=>match ops[i]? with
   |some o=>SZ E o (λa=>match f0a E nt ops a o with
    |some (p,b)=>KR p/\b.forceO o (YW E nt ops q K f (i::done))
    |none=>False) a
   |none=>False
def anyQ(E:Env)(nt:Nat)(ops:Array Oper)(K:St->Prop)(st:St):Prop:=Vk (d4m E.P ops) λq=>YW E nt ops q K ops.size [] st
structure Rel (ops:Array Oper) (listed:Array Bool) (done:List Nat):Prop where
 size:listed.size=ops.size
 get:∀i,i<ops.size->listed[i]?=some (done.contains i)
 lt:∀i∈done,i<ops.size
theorem f5c{ops:Array Oper}{listed:Array Bool}{done:List Nat}(h:Rel ops listed done):Region.ready .any ops listed=rdy ops done:=by
 unfold Region.ready rdy;apply List.filter_congr;intro i hi;have b:i<ops.size:=Er;have g:∀j d,listed.getD j d=if j<ops.size then done.contains j else d:=by
  intro j d;split
  .rename_i a;rw[Mx,h.get j a];rfl
  .rename_i a;rw[Mx,Array.getElem?_eq_none (by rw[h.size];omega)];rfl
 rw[g,Iz b];congr 1;congr 1;have c:∀j,listed.getD j false=done.contains j:=by
  intro j;rw[g];split
  .rfl
  .rename_i a;symm;rw[<-Bool.not_eq_true,List.contains_iff_mem];exact λe=>a (h.lt j e)
 cases ops[i]? with
 |none=>rfl
 |some o=>simp only[Kb,c,Array.all_toList]
theorem Rel.next{ops:Array Oper}{listed:Array Bool}{done:List Nat}(h:Rel ops listed done){i:Nat}(hi:i<ops.size):Rel ops (listed.setIfInBounds i true) (i::done):=by
 refine⟨by simp[h.size],λj a=> ?_,λj a=> ?_⟩
 .by_cases e:i=j
  .subst e;rw[Array.getElem?_setIfInBounds_self_of_lt (by rw[h.size];exact hi)];simp
  .rw[Lv e,h.get j a];congr 1;simp only[List.contains_cons];have:(j==i)=false:=by simpa using Ne.symm e
   rw[this,N4]
 .rcases Jd.1 a with rfl|a
  .exact hi
  .exact h.lt j a
section
variable{E:Env}{B0:Nat}{X A:Nat->Prop}{w0:World}{nt:Nat}
def Um(R:Exit->Act->World->Prop):Exit->Act->World->Prop
 |.normal,a,w=>R .normal a w
 |_,_,_=>False
theorem d4t(hE:EnvOK E)(hC:GR E){ops:Array Oper}{q:List Nat}(hq:∀i∈q,i∈d4m E.P ops){K:St->Prop}{R:Exit->Act->World->Prop}(hR:∀st a w μ,SD E B0 X A w0 nt st a w μ->K st->R .normal a w):
 ∀(f:Nat) (done:List Nat) (listed:Array Bool) (st:St) (a:Act) (w:World) (μ:Mu),SD E B0 X A w0 nt st a w μ->Rel ops listed done->YW E nt ops q K f done st->wpAny E.P .any ops (Um R) f listed a w:=by
 intro f;induction f with
 |zero=>
  intro done listed st a w μ h t d;simp only[YW]at d;unfold wpAny;rw[f5c t];split at d
  .rename_i e;exact⟨e,hR st a w μ h d⟩
  .exact d.elim
 |succ f ih=>
  intro done listed st a w μ h t d;simp only[YW,b4w]at d;have one:∀i∈Yb ops q done,∀o,ops[i]?=some o->∀u:Act->World->Prop,(∀z B,wpAny E.P .any ops (Um R) f (listed.setIfInBounds i true) z B->u z B)->if Region.wanted o (yielded ops a.tmps)then o.wp E.P a w u (Um R)else u (a.put o.dst undef) w:=by
   intro i n o l u L;split at d
   .rename_i e;rw[e]at n;cases n
   rename_i i0 r e;rw[e]at n;have M:=c6u d i n;rw[l]at M;simp only at M;obtain⟨st1,μ1,m,C⟩:=b1t h M;split at C;rotate_left
   .exact C.elim
   rename_i p N hs;rw[St.forceO_eq]at C;have b6:i<ops.size:=(K9.1 l).1;exact b0v hE hC m hs C.1.out (K:=u) (Q:=Um R) (λz B O S=>L z B (ih _ _ N z B O S (t.next b6) C.2))
  have T:=f5c t;unfold Yb at one d;split at one
  .rename_i i hf;have Q8:=List.find?_some hf;have U:=M4 hf;have H:=hq i (by simpa using Q8);unfold d4m at H;split at H;rotate_left
   .cases H
   rename_i V;obtain⟨o,_,l,I,kg⟩:=b6w H;rw[Nat.sub_zero,Kz]at l;have g:=one i Dx o l (wpAny E.P .any ops (Um R) f (listed.setIfInBounds i true)) (λ_ _ h=>h);have hg:o.guard=none:=by
    unfold WA at I;split at I
    .cases I
    .assumption
   have dq:Region.wanted o (yielded ops a.tmps)=true:=by simp[Region.wanted,hg]
   rw[Iz dq]at g;unfold Oper.wp at g;rcases d2x I (ev:=a.eval) (w:=w)with⟨v,hv⟩|⟨x,w1,hx⟩
   .rw[hv w]at g;refine wpAny_first l (λj o cs b J=>c16 V o (by simpa using Array.mem_of_getElem? J) cs b) (λc a w h=>h) f listed a w (λj oj J b9 W Y=> ?_) (by rw[T];exact U) (.inl ⟨dq,hv⟩) g;have m:=b7n kg (j:=j) (y:=oj) (by rw[Kz];exact J) Dv;rw[Kv]at m;have wt:∀{x:Oper} {k:Nat},FB x k=true->∃e∈x.after,Region.binds .any e=true/\e.on=k:=λ{x k} h=>by
     unfold FB at h;rw[Jj]at h;obtain⟨e,F,s⟩:=h;rw[Jt,Lr]at s;exact⟨e,by simpa using F,s.1,s.2⟩
    rcases m with m|m|m
    .obtain⟨e,F,s,Z⟩:=wt m;exact absurd Z (Y e F s)
    .obtain⟨e,F,s,Z⟩:=wt m;rw[<-T]at U;obtain⟨_,o',nv,bw⟩:=mem_ready.1 U;rw[l]at nv;cases nv;have G:=bw e F s;rw[Z]at G;have m7:=(K9.1 J).1;have h3:=t.get j m7;rw[Mx,h3]at W G;simp only[Kn]at W G;rw[W]at G;cases G
    .exact m
   .rw[hx]at g;unfold Oper.upon at g;split at g<;>first|exact g.elim|(rename_i e;cases e)
  .unfold wpAny;rw[T];refine⟨λe=> ?_,λi n=> ?_⟩
   .rename_i Y;rw[Y]at d;simp only[e]at d;exact hR st a w μ h d
   .have bj:i<ops.size:=by
     have:=Kf.1 (show i∈(List.range ops.size).filter _ from n);simpa using this.1
    have l:ops[i]?=some ops[i]:=M2 bj;have:=one i n _ l _ (λ_ _ h=>h);unfold wpOp;rw[l];simp only;split
    .rename_i g;rw[Iz g]at this;exact .inl this
    .rename_i g;rw[J3 g]at this;exact this
theorem c14(k:EnvOK E)(l:GR E)(m:E.P.follows .mixedOrders=true){id:Nat}{ops:Array Oper}{K:St->Prop}{st:St}{a:Act}{w:World}{μ:Mu}(h:SD E B0 X A w0 nt st a w μ)(c:anyQ E nt ops K st){R:Exit->Act->World->Prop}
 (n:∀b g j d,SD E B0 X A w0 nt b g j d->K b->R .normal g j):(Code.region id ops true).wp E.P R a w:=by
 refine Code.wp_mono (Q:=Um R) (λe a w h=> ?_) (wp_region_any m ?_)
 .cases e<;>first|exact h|exact h.elim
 change wpAny E.P .any ops (Um R) ops.size (Array.replicate ops.size false) a w.drew;unfold anyQ at c;rw[b4w]at c;refine d4t k l (λi f=>f) n ops.size [] _ st a w.drew μ ⟨h.own.drew,h.fr.trans Fr.drew,h.base,NH Keeps.drew h.glo,h.dfr,h.size,h.env.keep Keeps.drew,h.fresh,h.anc⟩ ⟨Dx,λi f=>by simp[f],Dx⟩ c
end
structure Post where
 n:St->Prop
 x:Nat->St->Prop
 r:St->Prop
inductive NL where
 |slot (t:Nat) (T:TypeId) (sz:Nat)
 |cell (k o:Nat) (T:TypeId) (sz:Nat)
def f2m:SV->Bool
 |.con (.slice none 0 0)=>true
 |_=>false
theorem c74{s:SV}(h:f2m s=true):s=.con (.slice none 0 0):=by
 unfold f2m at h;split at h
 .rfl
 .cases h
def Xa(n:NL)(st:St):St:=match n with
 |.slot t T a=>match CJ t st.ρ with
  |some e=>match e.guard with
   |none=>match f2m e.sv with
    |true=>⟨⟨t,none,.osl st.own.length⟩::st.ρ,st.own++[.row T a 0 (λ_=>[]) none]⟩
    |false=>st
   |some _=>st
  |none=>st
 |.cell k o T a=>match st.own[k]? with
  |some (.cells c b)=>match b[o]? with
   |some s=>match f2m s with
    |true=>⟨st.ρ,st.own.set k (.cells c (b.set o (.osl st.own.length)))++[.row T a 0 (λ_=>[]) none]⟩
    |false=>st
   |none=>st
  |_=>st
def nilL:List NL->St->St
 | [],st=>st
 |n::r,st=>nilL r (Xa n st)
section
variable{E:Env}{B0:Nat}{X A:Nat->Prop}{w0:World}{nt:Nat}{st:St}{a:Act}{w:World}{μ:Mu}
theorem b80(h:SD E B0 X A w0 nt st a w μ)(n:NL):∃l,SD E B0 X A w0 nt (Xa n st) a w l:=by
 have q:μ st.own.length=none:=h.fresh _ (J9 _);have r:∀(T:TypeId) (sz:Nat),Own B0 X A w (μ.set st.own.length (.slice none 0 0)) (st.own++[.row T sz 0 (λ_=>[]) none])/\Keeps w w (held A μ) (held A (μ.set st.own.length (.slice none 0 0))) μ (μ.set st.own.length (.slice none 0 0)):=
  λT sz=>c0s (e:=T) (sz:=sz) (f:=λ_=>[]) (h.own.more WG) q Dx
 have u:∀k,st.own.length+1<=k->(μ.set st.own.length (.slice none 0 0)) k=none:=λk d=>by unfold Mu.set;rw[if_neg Dv];exact h.fresh k Dv
 have y:∀j x,E.an j=some x->(μ.set st.own.length (.slice none 0 0)) j=some x:=λj x hx=>by have:=h.anc j x hx;unfold Mu.set;rw[J3 (λe=>by rw[e,q]at this;cases this)];exact this
 have z:(μ.set st.own.length (.slice none 0 0)) st.own.length=some (.slice none 0 0):=Ed;cases n with
 |slot t T sz=>
  simp only[Xa];split;rotate_left
  .exact⟨μ,h⟩
  rename_i e B;split;rotate_left
  .exact⟨μ,h⟩
  rename_i K;split;rotate_left
  .exact⟨μ,h⟩
  rename_i hs;obtain⟨o1,o2⟩:=r T sz;refine⟨_,o1,h.fr,h.base,NH o2 h.glo,h.dfr,h.size,λL M g=> ?_,λk d=>u k (by simpa using d),y⟩;simp only[CJ]at g;split at g
  .rename_i c;cases g;subst c;have:=h.env t e B;unfold CZ at this⊢;rw[K]at this;simp only at this⊢;rw[MY B]at this;rw[c74 hs]at this;generalize a.tmps.getD t undef=v at this;cases this;exact .osl z
  .exact(h.env.keep o2) L M g
 |cell k o T sz=>
  simp only[Xa];split;rotate_left
  .exact⟨μ,h⟩
  rename_i N C F;split;rotate_left
  .exact⟨μ,h⟩
  rename_i s hs;split;rotate_left
  .exact⟨μ,h⟩
  rename_i O;obtain⟨o1,o2⟩:=r T sz;have m:k<st.own.length:=(J4.1 F).1;refine⟨_,⟨λj x P=> ?_,o1.inj,o1.rng,o1.bnd⟩,h.fr,h.base,NH o2 h.glo,h.dfr,h.size,h.env.keep o2,λk d=>u k (by simpa using d),y⟩;obtain⟨Q,c,G⟩:=o1.blk j x P;by_cases e:j=k
  .subst e;rw[Jc m,F]at c;cases c;refine⟨.cells N (C.set o (.osl st.own.length)),by rw[Jc (by simpa using m)];simp[m],?_⟩;obtain⟨b,R,rfl,S,hl,U,H⟩:=G;refine⟨b,R,rfl,S,E9,U,λi V v hs' I=> ?_⟩;by_cases J:i=o
   .subst J;have:=H i s v hs I;rw[c74 O]at this;have W:i<C.length:=(J4.1 hs).1;rw[K4 W]at hs';cases hs';cases this;exact .osl z
   .rw[Jh (Ne.symm J)]at hs';exact H i V v hs' I
  .refine⟨Q,?_,G⟩;by_cases bm:j<st.own.length
   .rw[Jc bm]at c;rw[Jc Ft,Jh (Ne.symm e)];exact c
   .rw[Jm Dv]at c;rw[Jm Ft];simpa using c
theorem d0r(l:List NL):∀{st:St} {μ:Mu},SD E B0 X A w0 nt st a w μ->∃b,SD E B0 X A w0 nt (nilL l st) a w b:=by
 induction l with
 |nil=>intro st μ h;exact⟨μ,h⟩
 |cons n l c=>intro st μ h;obtain⟨b,d⟩:=b80 h n;exact c d
end
theorem c5a{E:Env}{B0:Nat}{X A:Nat->Prop}{w0:World}{nt:Nat}{st:St}{a:Act}{w:World}{μ:Mu}(h:SD E B0 X A w0 nt st a w μ){l:List Nat}:SD E B0 X A w0 nt ⟨NZ l st.ρ,st.own⟩ a w μ:=
 ⟨h.own,h.fr,h.base,h.glo,h.dfr,h.size,λt e b=>h.env t e (b03 b).2,h.fresh,h.anc⟩
def gk(l:List Nat)(_:Nat):List Ghost:=[.keep l]
def f8s(E:Env)(g:Ghost)(st:St):Option (Prop×St):=match g with
 |.focus t=>d43 E t st
 |.unfocus k=>c0g E k st
 |.newFam m T c=>c4b m T c st
 |.nil t T a=>some (True,Xa (.slot t T a) st)
 |.sel d=>gSel E d st
 |.fz k=>some (True,st.fz E k)
 |.keep l=>some (True,⟨NZ l st.ρ,st.own⟩)
 |.flat k=>g1i k st
 |.poolN T a t=>(d3j T a t st).map λs=>(True,s)
 |.poolTake k j p t b=>b62 E k j p t b st
 |.poolSeal k j p b=>b5h E k j p b st
 |.orders|.two _|.poolPut _ _ _=>none
theorem c4z{E:Env}{B0:Nat}{X A:Nat->Prop}{w0:World}{nt:Nat}{st:St}{a:Act}{w:World}{μ:Mu}(h:SD E B0 X A w0 nt st a w μ){g:Ghost}{c:Prop}{d:St}(b:f8s E g st=some (c,d))(e:c):∃f,SD E B0 X A w0 nt d a w f:=by
 cases g with
 |focus t=>exact c2z h b e
 |unfocus k=>exact b79 h b
 |newFam m T Ts=>exact c0t h b e
 |nil t T n=>cases b;exact b80 h _
 |sel ks=>exact c9r h b
 |fz k=>cases b;exact c90 h k
 |keep l=>cases b;exact⟨μ,c5a h⟩
 |flat k=>exact⟨μ,c4x h b⟩
 |orders=>cases b
 |two t=>cases b
 |poolN T n t=>
  simp only[f8s,Ic]at b;obtain⟨s,hs,_,rfl⟩:=b;exact c1d h hs
 |poolPut t p i=>cases b
 |poolTake k j p t i=>exact b75 h b e
 |poolSeal k j p i=>exact b5c h b e
def Ub(p q:Prop):Prop:=p->q
theorem Ub.mk{p q:Prop}(h:p->q):Ub p q:=h
theorem Ub.out{p q:Prop}(h:Ub p q):p->q:=h
attribute [irreducible] Ub
def two(t:Nat)(st:St):Option (Int×St×St):=match CJ t st.ρ with
 |some ⟨_,none,.int k x⟩=>some (x,⟨⟨t,none,.int k 0⟩::st.ρ,st.own⟩,⟨⟨t,none,.int k 1⟩::st.ρ,st.own⟩)
 |_=>none
theorem c24{E:Env}{B0:Nat}{X A:Nat->Prop}{w0:World}{nt:Nat}{st:St}{a:Act}{w:World}{μ:Mu}(h:SD E B0 X A w0 nt st a w μ){t:Nat}{k:IntKind}{x:Int}{n:Nat}(c:CJ t st.ρ=some ⟨n,none,.int k x⟩):SD E B0 X A w0 nt ⟨⟨t,none,.int k x⟩::st.ρ,st.own⟩ a w μ:=by
 refine⟨h.own,h.fr,h.base,h.glo,h.dfr,h.size,λd e b=> ?_,h.fresh,h.anc⟩;simp only[CJ]at b;split at b
 .rename_i ht;cases b;have f:=h.env t _ c;have hs:=MY c;simp only at hs;subst hs;exact f
 .exact h.env d e b
def RB(E:Env)(K:St->Prop):List Ghost->St->Prop
 | [],st=>K st
 |.two t::a,st=>match two t st with
  |some (x,c,d)=>KR (x=0\/x=1)/\Ub (x=0) (c.force (RB E K a))/\Ub (x=1) (d.force (RB E K a))
  |none=>False
 |.poolPut t p e::a,st=>match b4e E t p e st with
  |some F=>QU λv=>(F v.val).force (RB E K a)
  |none=>False
 |g::a,st=>match f8s E g st with
  |some (p,b)=>KR p/\b.force (RB E K a)
  |none=>False
def PK(E:Env)(K:St->Prop):List Ghost->St->Prop
 | []=>K
 |g::a=>RB E K (g::a)
theorem Xf{E:Env}{B0:Nat}{X A:Nat->Prop}{w0:World}{nt:Nat}{a:Act}{w:World}{K:St->Prop}:∀(j:List Ghost) {st:St} {μ:Mu},SD E B0 X A w0 nt st a w μ->RB E K j st->∃d e,SD E B0 X A w0 nt d a w e/\K d:=by
 intro j;induction j with
 |nil=>intro st μ h b;exact⟨st,μ,h,b⟩
 |cons g j l=>
  intro st μ h b;unfold RB at b;split at b
  .cases ‹List.cons _ _=[]›
  .rename_i t f i;cases i;split at b
   .rename_i x s0 s1 c;simp only[St.force_eq]at b;obtain⟨hx,r,s⟩:=b;unfold two at c;split at c
    .rename_i n k y o;cases c;rcases hx.out with rfl|rfl
     .exact l (c24 h o) (r.out rfl)
     .exact l (c24 h o) (s.out rfl)
    .cases c
   .exact b.elim
  .rename_i t p wt f i;cases i;split at b
   .rename_i F c;obtain⟨v,e,m⟩:=b1z h c;have q:=b.out v;rw[St.force_eq]at q;exact l m q
   .exact b.elim
  .rename_i g' f _ _ i;cases i;split at b
   .rename_i p d c;rw[St.force_eq]at b;obtain⟨e,m⟩:=c4z h c b.1.out;exact l m b.2
   .exact b.elim
structure Inv where
 β:Type
 st:β->St
 ok:β->Prop
 μ:β->Nat
 nl:List NL:=[]
 sub:β->Option (Nat->Option Inv):=λ_=>none
 un:Option Nat:=none
def c3d(F:Post->St->Prop)(Q:Post):Nat->St->Prop
 |0,_=>False
 |n+1,st=>F ⟨c3d F Q n,Q.x,Q.r⟩ st
def Br(b:Bool)(p q:Prop):Prop:=match b with
 |true=>p
 |false=>q
theorem Br.mk{b:Bool}{p q:Prop}(h:b=true->p)(k:b=false->q):Br b p q:=by cases b;exact k rfl;exact h rfl
theorem Br.t{p q:Prop}(h:Br true p q):p:=h
theorem Br.f{p q:Prop}(h:Br false p q):q:=h
theorem Br.litT{b:Bool}{p q:Prop}(h:b=true)(a:p):Br b p q:=by subst h;exact a
theorem Br.litF{b:Bool}{p q:Prop}(h:b=false)(a:q):Br b p q:=by subst h;exact a
attribute [irreducible] Br
def Ur:Code->Nat
 |.region id _ _=>id
 |.seq a _=>Ur a
 |.block _ c=>Ur c
 |.loop c=>Ur c
 |.scope c=>Ur c
 |_=>0
def Pc(gr:Nat->List Ghost)(id:Nat):Bool:=match gr id with
 |.orders::_=>true
 |_=>false
def JN(b:Bool)(g:Nat->Bool):Code->Bool
 |.region id ops d=> !d||g id||To (kb b ops) ops
 |.seq x y=>JN b g x&&JN b g y
 |.cond _ x y=>JN b g x&&JN b g y
 |.block _ c=>JN b g c
 |.loop c=>JN b g c
 |.scope c=>JN b g c
 |_=>true
noncomputable def EV(E:Env)(nt:Nat)(I:Nat->Option Inv)(c:Code)(Q:Post)(st:St):Prop:=
 Code.rec (motive:=λ_=>(Nat->Option Inv)->Post->St->Prop)
  (λ_ Q st=>Q.n st)
  (λid ops d _ Q st=>match d with
    |true=>match E.gr id with
     |.orders::h=>anyQ E nt ops (PK E Q.n h) st
     |_=>d85 E nt ops (PK E Q.n (E.gr id)) st
    |false=>Oe E nt ops (PK E Q.n (E.gr id)) ops.toList st)
  (λ_ _ a b I Q st=>a I ⟨λe=>b I Q e,Q.x,Q.r⟩ st)
  (λc _ _ x y I Q st=>match CK E st.ρ none c with
    |some (.bool b)=>Br b (x I Q st) (y I Q st)
    |some (.ub p q)=>Ub p (x I Q st)/\Ub q (y I Q st)
    |_=>False)
  (λi _ b I Q st=>b I ⟨Q.n,λj e=>if j=i then PK E Q.n (E.gr (1000+i)) e else Q.x j e,Q.r⟩ st)
  (λf b I Q st=>match I (Ur f)with
    |some v=>match v.un with
     |some n=>c3d (λQ st=>b I Q st) Q n st
     |none=>∃z,v.ok z/\TK (nilL v.nl st) (v.st z)/\∀z,v.ok z->match ancB E (v.st z)with
      |true=>b ((v.sub z).getD I) ⟨λe=>∃g,v.ok g/\v.μ g<v.μ z/\TK e (v.st g),Q.x,Q.r⟩ (v.st z)
      |false=>False
    |none=>False)
  (λ_ _ _ _ _ _ _ _ _=>False)
  (λi _ Q st=>Q.x i st)
  (λ_ b I Q st=>b I Q st)
  (λ_ _ Q st=>Q.n st)
  (λ_ _ _ _=>False)
  (λ_ Q st=>Q.r st)
  (λ_ _ _ _=>False)
  c I Q st
section
variable{E:Env}{nt:Nat}{I:Nat->Option Inv}{Q:Post}{st:St}
theorem g1h:EV E nt I .skip Q st=Q.n st:=rfl
theorem g14{id:Nat}{ops:Array Oper}{d:Bool}:EV E nt I (.region id ops d) Q st=match d with
 |true=>match E.gr id with
  |.orders::a=>anyQ E nt ops (PK E Q.n a) st
  |_=>d85 E nt ops (PK E Q.n (E.gr id)) st
 |false=>Oe E nt ops (PK E Q.n (E.gr id)) ops.toList st:=rfl
theorem f8y{a b:Code}:EV E nt I (.seq a b) Q st=EV E nt I a ⟨λc=>EV E nt I b Q c,Q.x,Q.r⟩ st:=rfl
theorem f8n{c:Operand}{x y:Code}:EV E nt I (.cond c x y) Q st=match CK E st.ρ none c with
 |some (.bool b)=>Br b (EV E nt I x Q st) (EV E nt I y Q st)
 |some (.ub p q)=>Ub p (EV E nt I x Q st)/\Ub q (EV E nt I y Q st)
 |_=>False:=rfl
theorem g05{i:Nat}{b:Code}:EV E nt I (.block i b) Q st=EV E nt I b ⟨Q.n,λj a=>if j=i then PK E Q.n (E.gr (1000+i)) a else Q.x j a,Q.r⟩ st:=rfl
theorem g1s{b:Code}:EV E nt I (.loop b) Q st=match I (Ur b)with
 |some v=>match v.un with
  |some n=>c3d (λQ st=>EV E nt I b Q st) Q n st
  |none=>∃z,v.ok z/\TK (nilL v.nl st) (v.st z)/\∀z,v.ok z->match ancB E (v.st z)with
   |true=>EV E nt ((v.sub z).getD I) b ⟨λa=>∃c,v.ok c/\v.μ c<v.μ z/\TK a (v.st c),Q.x,Q.r⟩ (v.st z)
   |false=>False
 |none=>False:=rfl
theorem f8b{f:Operand}{t:Array Tmp}{a b:Code}:EV E nt I (.rangeFunc f t a b) Q st=False:=rfl
theorem f69{i:Nat}:EV E nt I (.exit i) Q st=Q.x i st:=rfl
theorem f7i{b:Code}:EV E nt I (.scope b) Q st=EV E nt I b Q st:=rfl
theorem g13{l:Nat}:EV E nt I (.label l) Q st=Q.n st:=rfl
theorem g10{l:Nat}:EV E nt I (.goto l) Q st=False:=rfl
theorem g21:EV E nt I .ret Q st=Q.r st:=rfl
theorem f8v{m:String}:EV E nt I (.refuse m) Q st=False:=rfl
end
theorem c9s{P:Program}{Q:Exit->Act->World->Prop}{c:Code}(J:Nat->Act->World->Prop)
 (i:∀n a w,J n a w->c.wp P (Exit.then (λo q=>∃m,m<n/\J m o q) Q) a w):∀n a w,J n a w->(Code.loop c).wp P Q a w:=by
 intro n a w h b k r;have s:∀n a w,J n a w->∃e o q,Q e o q/\Arrives P (lone (b.at a (.code c::.inLoop c::k)) r w) b k r e o q:=by
  intro n;induction n using Nat.strongRecOn with
  |_ n t=>
   intro a w u;obtain⟨e,d,f,g,fh⟩:=i n a w u b (.inLoop c::k) r;cases e with
   |normal=>
    obtain⟨m,v,j⟩:=g;obtain⟨e₂,a₂,w₂,hq₂,harr₂⟩:=t m v d f j;exact Df
   |exit id=>exact⟨_,d,f,g,.pass (x:=.inLoop c) rfl (λ_ _=>.inl Dx) fh⟩
   |goto l=>exact⟨_,d,f,g,.pass (x:=.inLoop c) rfl (λ_ _=>.inl Dx) fh⟩
   |ret=>exact⟨_,d,f,g,.pass (x:=.inLoop c) rfl (λ_ _=>.inl Dx) fh⟩
   |panic ch=>exact⟨_,d,f,g,.pass (x:=.inLoop c) rfl (λ_ _=>.inl Dx) fh⟩
   |outgrown=>exact⟨_,d,f,g,.pass (x:=.inLoop c) rfl (λ_ _=>.inl Dx) fh⟩
 obtain⟨e,o,q,g,fh⟩:=s n a w h;exact⟨e,o,q,g,.of_steps (.one step_loop) fh⟩
def LW(P:Program)(c:Code)(Q:Exit->Act->World->Prop)(a:Act)(w:World):Prop:=∀(b:Frame) (k:List Item) (d:List Frame),∃e f g,Q e f g/\Arrives P (lone (b.at a (.code c::.inLoop c::k)) d w) b k d e f g
theorem LW.loop{P:Program}{Q:Exit->Act->World->Prop}{c:Code}{a:Act}{w:World}(h:LW P c Q a w):(Code.loop c).wp P Q a w:=λb k d=>
 let ⟨e,a',w',hq,fh⟩:=h b k d
 ⟨e,a',w',hq,.of_steps (.one step_loop) fh⟩
theorem LW.once{P:Program}{Q:Exit->Act->World->Prop}{c:Code}{a:Act}{w:World}(h:c.wp P (Exit.then (λj m=>LW P c Q j m) Q) a w):LW P c Q a w:=by
 intro b k i;obtain⟨e,d,f,g,fh⟩:=h b (.inLoop c::k) i;cases e with
 |normal=>
  obtain⟨e₂,a₂,w₂,hq₂,harr₂⟩:=g b k i;exact Df
 |exit id=>exact⟨_,d,f,g,.pass (x:=.inLoop c) rfl (λ_ _=>.inl Dx) fh⟩
 |goto l=>exact⟨_,d,f,g,.pass (x:=.inLoop c) rfl (λ_ _=>.inl Dx) fh⟩
 |ret=>exact⟨_,d,f,g,.pass (x:=.inLoop c) rfl (λ_ _=>.inl Dx) fh⟩
 |panic ch=>exact⟨_,d,f,g,.pass (x:=.inLoop c) rfl (λ_ _=>.inl Dx) fh⟩
 |outgrown=>exact⟨_,d,f,g,.pass (x:=.inLoop c) rfl (λ_ _=>.inl Dx) fh⟩
section
variable{E:Env}{B0:Nat}{X A:Nat->Prop}{w0:World}{nt:Nat}
def PostOK(E:Env)(B0:Nat)(X A:Nat->Prop)(w0:World)(nt:Nat)(Q:Post)(R:Exit->Act->World->Prop):Prop:=
 (∀st a w μ,SD E B0 X A w0 nt st a w μ->Q.n st->R .normal a w)/\(∀i st a w μ,SD E B0 X A w0 nt st a w μ->Q.x i st->R (.exit i) a w)/\(∀st a w μ,SD E B0 X A w0 nt st a w μ->Q.r st->R .ret a w)
theorem d33(k:EnvOK E)(m:GR E){ops:Array Oper}{R:Exit->Act->World->Prop}{K:St->Prop}:∀(l:List Oper) (st:St) (a:Act) (w:World) (μ:Mu),SD E B0 X A w0 nt st a w μ->Oe E nt ops K l st->
 (∀d e f c,SD E B0 X A w0 nt d e f c->K d->R .normal e f)->wpList E.P ops R l a w:=by
 intro l;induction l with
 |nil=>
  intro st a w μ h b g;exact g st a w μ h b
 |cons o l n=>
  intro st a w μ h b g;simp only[b2f]at b;obtain⟨st1,μ1,q,b⟩:=b1t h b;unfold SK at b;split at b;rotate_left
  .exact b.elim
  rename_i p i hs;rw[St.forceO_eq]at b;refine wpList_step (λKc j=> ?_);exact b0v k m q hs b.1.out (λe f c hs=>j _ _ (n i e f c hs b.2 g))
theorem b6i(hE:EnvOK E)(hC:GR E)(hm:E.P.follows .mixedOrders=true):∀(c:Code) (I:Nat->Option Inv) (Q:Post) (R:Exit->Act->World->Prop) (st:St) (a:Act) (w:World) (μ:Mu),JN E.c2 (Pc E.gr) c=true->SD E B0 X A w0 nt st a w μ->PostOK E B0 X A w0 nt Q R->
 EV E nt I c Q st->c.wp E.P R a w:=by
 intro c;induction c with
 |skip=>intro I Q R st a w μ _ h u o;exact wp_skip (u.1 st a w μ h o)
 |region id ops d=>
  intro I Q R st a w μ ff h u o;simp only[g14]at o;have O:∀{k B C m},SD E B0 X A w0 nt k B C m->PK E Q.n (E.gr id) k->R .normal B C:=by
   intro k B C m hs K;cases W:E.gr id with
   |nil=>rw[W]at K;exact u.1 k B C m hs K
   |cons g Y=>
    rw[W]at K;obtain⟨F,G,J,f8⟩:=Xf _ hs K;exact u.1 F B C G J f8
  cases d with
  |false=>
   exact wp_region_list (d33 hE hC _ st a w μ h o (λk B C m hs K=>O hs K))
  |true=>
   dsimp only at o;split at o
   .rename_i Y W;refine c14 hE hC hm h o (λk B C m hs K=> ?_);cases Y with
    |nil=>exact u.1 k B C m hs K
    |cons g Y=>
     obtain⟨F,G,J,f8⟩:=Xf _ hs K;exact u.1 F B C G J f8
   .rename_i je;have ho:Pc E.gr id=false:=by
     unfold Pc;split
     .rename_i Y e;exact absurd e (je Y)
     .rfl
    exact d0b hE hC hm (by simpa[JN,ho]using ff) h o (λk B C m hs K=>O hs K)
 |seq x y S T=>
  intro I Q R st a w μ ff h u o;simp only[JN,Jt]at ff;refine wp_seq (S I ⟨λk=>EV E nt I y Q k,Q.x,Q.r⟩ _ st a w μ ff.1 h ⟨λk B C m hs H=>T I Q R k B C m ff.2 hs u H,λi k B C m hs H=>u.2.1 i k B C m hs H,λk B C m hs H=>u.2.2 k B C m hs H⟩ o)
 |cond c x y S T=>
  intro I Q R st a w μ ff h u o;simp only[JN,Jt]at ff;simp only[f8n]at o;split at o
  .rename_i b hb;have hd:=h.opds (g:=none) (λq b e=>E3) _ _ hb;generalize hv:a.eval c=v at hd;cases hd;refine wp_cond hv ?_;cases b
   .exact T I Q R st a w μ ff.2 h u o.f
   .exact S I Q R st a w μ ff.1 h u o.t
  .rename_i hb;have hd:=h.opds (g:=none) (λq b e=>E3) _ _ hb;generalize hv:a.eval c=v at hd;cases hd with
   | @ub b p q h1 h2=>
   refine wp_cond hv ?_;cases b
   .exact T I Q R st a w μ ff.2 h u (o.2.out (h2 rfl))
   .exact S I Q R st a w μ ff.1 h u (o.1.out (h1 rfl))
  .exact o.elim
 |block i b Z=>
  intro I Q R st a w μ ff h u o;have O:∀{k B C m},SD E B0 X A w0 nt k B C m->PK E Q.n (E.gr (1000+i)) k->R .normal B C:=by
   intro k B C m hs K;cases W:E.gr (1000+i)with
   |nil=>rw[W]at K;exact u.1 k B C m hs K
   |cons g Y=>
    rw[W]at K;obtain⟨F,G,J,f8⟩:=Xf _ hs K;exact u.1 F B C G J f8
  refine wp_block (Z I ⟨Q.n,λj k=>if j=i then PK E Q.n (E.gr (1000+i)) k else Q.x j k,Q.r⟩ _ st a w μ Ge h ⟨λk B C m hs H=>u.1 k B C m hs H,λj k B C m hs H=> ?_,λk B C m hs H=>u.2.2 k B C m hs H⟩ o);show (if j=i then R .normal B C else R (.exit j) B C);split
  .rename_i e;exact O hs (by simpa[e]using H)
  .rename_i e;replace H:Q.x j k:=by simpa[e]using H
   exact u.2.1 j k B C m hs H
 |loop b Z=>
  intro I Q R st a w μ ff h u o;simp only[g1s]at o;split at o;rotate_left
  .exact o.elim
  rename_i v hv;split at o
  .rename_i n H;have key:∀(n:Nat) (st:St) (a:Act) (w:World) (μ:Mu),SD E B0 X A w0 nt st a w μ->c3d (λQ st=>EV E nt I b Q st) Q n st->LW E.P b R a w:=by
    intro n;induction n with
    |zero=>intro st a w μ _ h;exact h.elim
    |succ n ihn=>
     intro st a w μ hs o;refine LW.once ?_;exact Z I ⟨c3d (λQ st=>EV E nt I b Q st) Q n,Q.x,Q.r⟩ _ st a w μ Ge hs ⟨λF M N G J H=>ihn F M N G J H,λi F M N G J H=>u.2.1 i F M N G J H,λF M N G J H=>u.2.2 F M N G J H⟩ o
   exact(key n st a w μ h o).loop
  obtain⟨z,hz,mr,hround'⟩:=o;have ny:∀z,v.ok z->ancB E (v.st z)=true/\EV E nt ((v.sub z).getD I) b ⟨λk=>∃U,v.ok U/\v.μ U<v.μ z/\TK k (v.st U),Q.x,Q.r⟩ (v.st z):=by
   intro z hz;have:=hround' z hz;split at this
   .rename_i e;exact⟨e,this⟩
   .exact this.elim
  obtain⟨μ0,h0⟩:=d0r v.nl h;obtain⟨m,h'⟩:=b6z h0 mr (ny z hz).1;refine c9s (λn B C=>∃z L,v.ok z/\v.μ z=n/\SD E B0 X A w0 nt (v.st z) B C L) (λn B C hJ=> ?_) (v.μ z) a w ⟨z,m,hz,rfl,h'⟩;obtain⟨U,L,sa,rfl,hs⟩:=hJ;refine Z ((v.sub U).getD I) ⟨λk=>∃V,v.ok V/\v.μ V<v.μ U/\TK k (v.st V),Q.x,Q.r⟩ _ (v.st U) B C L Ge hs ⟨λF M N G J H=> ?_,λi F M N G J H=>u.2.1 i F M N G J H,λF M N G J H=>u.2.2 F M N G J H⟩ (ny U sa).2;obtain⟨V,R4,b6,ta⟩:=H;obtain⟨μ3,h3⟩:=b6z J ta (ny V R4).1;exact⟨v.μ V,b6,V,μ3,R4,rfl,h3⟩
 |exit i=>intro I Q R st a w μ _ h u o;exact wp_exit (u.2.1 i st a w μ h o)
 |ret=>intro I Q R st a w μ _ h u o;exact wp_ret (u.2.2 st a w μ h o)
 |rangeFunc f p x y _ _=>intro I Q R st a w μ _ h u o;exact o.elim
 |scope b Z=>
  intro I Q R st a w μ ff h u o;exact wp_scope_straight (Z I Q _ st a w μ Ge h ⟨u.1,u.2.1,u.2.2⟩ o)
 |label l=>intro I Q R st a w μ _ h u o;exact wp_label (u.1 st a w μ h o)
 |goto l=>intro I Q R st a w μ _ h u o;exact o.elim
 |refuse s=>intro I Q R st a w μ _ h u o;exact o.elim
end
end Go.Proofs.YtaihldljnlgnoaaGreatDoor.V
