/-
  Parts of the proof: V16 W1 W2 W3 W4 G1 O1 V17. Conditions: none.
-/
import Derived.Test.YtaihldljnlgnoaaGreatDoorSmc3
set_option maxRecDepth 100000
set_option maxHeartbeats 40000000
namespace Go.Proofs.YtaihldljnlgnoaaGreatDoor.V
open Go
def FA(o:Oper)(j:Nat):Bool:=o.after.toList.any λe=>Region.binds .any e&&e.on==j
def b3d(ops:Array Oper):Nat->Option (Nat×Bool)->List Nat
 |0,_=>[]
 |_,none=>[]
 |n+1,some (j,_)=>match ops[j]? with
  |some o=>match o.dst with
   |some d=>d::b3d ops n o.guard
   |none=>b3d ops n o.guard
  |none=>[]
def NW(ops:Array Oper)(o:Oper):List Nat:=(o.op.operands.toList.filterMap λx=>match x with|.tmp t=>some t|_=>none)++b3d ops 6 o.guard
def Rh(ks:List Nat)(o:Oper):Nat:=
 if o.after.toList.any λe=>Region.binds .any e&&ks.getD e.on 0==2 then 2 else match o.op with
 |.store _ _ _=>1
 |.call {callee:=.builtin .append,..}=>2
 |.mapUpdate _ _ _ _|.insert _ _ _ _=>2
 |.call {callee:=.builtin .delete,..}|.call {callee:=.builtin .copy,..}|.call {callee:=.builtin .clear,..}=>2
 |_=>0
def reach1(o:Oper)(a:List Nat):Nat:=o.after.toList.foldl (λm e=>if Region.binds .any e then m|||1 <<< e.on|||a.getD e.on 0 else m) 0
def b9j:List Oper->List Nat->List Nat
 | [],a=>a
 |o::l,a=>b9j l (a++[reach1 o a])
def d5q(ops:Array Oper):List Nat:=b9j ops.toList []
inductive Reach (ops:Array Oper):Nat->Nat->Prop
 |one {i j:Nat} {o:Oper} (h:ops[i]?=some o) (hw:FA o j=true):Reach ops i j
 |more {i j k:Nat} {o:Oper} (h:ops[i]?=some o) (hw:FA o k=true) (hr:Reach ops k j):Reach ops i j
theorem c4d(l:List Edge)(b:List Nat):∀(m j:Nat),(l.foldl (λm e=>if Region.binds .any e then m|||1 <<< e.on|||b.getD e.on 0 else m) m).testBit j=true->m.testBit j=true\/∃e∈l,Region.binds .any e=true/\(e.on=j\/(b.getD e.on 0).testBit j=true):=by
 induction l with
 |nil=>intro m j h;exact .inl h
 |cons e l c=>
  intro m j h;simp only[Mg]at h;rcases c _ j h with h|⟨d,f,a⟩
  .split at h
   .rename_i a;simp only[Nat.testBit_or,Kk]at h;rcases h with(h|h)|h
    .exact .inl h
    .refine .inr ⟨e,E6,a,.inl ?_⟩;rw[Nat.testBit_shiftLeft]at h;simp only[Ix]at h;have:=h.2;match hk:j-e.on with
     |0=>omega
     |n+1=>
      rw[hk,Nat.testBit_succ]at this;simp at this
    .exact .inr ⟨e,E6,a,.inr h⟩
   .exact .inl h
  .exact .inr ⟨d,by simp[f],a⟩
theorem c1i(ops:Array Oper):∀(l:List Oper) (a:List Nat),(∀k,l[k]?=ops[a.length+k]?)->(∀i j,i<a.length->(a.getD i 0).testBit j=true->Reach ops i j)->∀i j,((b9j l a).getD i 0).testBit j=true->Reach ops i j:=by
 intro l;induction l with
 |nil=>
  intro a _ h i j b;by_cases d:i<a.length
  .exact h i j d b
  .rw[b9j,Jd,Lr E4]at b;simp at b
 |cons o l q=>
  intro a f h;refine q _ (λk=> ?_) (λi j d b=> ?_)
  .have:=f (k+1);simp only[Ls]at this;rw[this,Kj];congr 1;simp only[Kx,Mz];omega
  .by_cases g:i<a.length
   .rw[Jd,Jr g,<-Jd]at b;exact h i j g b
   .have r:i=a.length:=by simp at d;omega
    subst r;rw[Jd,Jw (Jm _)]at b;simp only[L8,N6,L4]at b;have m:ops[a.length]?=some o:=by have:=f 0;simpa using this.symm
    rcases c4d _ _ _ _ b with s|⟨e,t,u,c⟩
    .simp at s
    .have n:FA o e.on=true:=by
      simp only[FA,Jz,J8];exact⟨e,t,u,rfl⟩
     rcases c with rfl|c
     .exact .one m n
     .by_cases v:e.on<a.length
      .exact .more m n (h _ _ v c)
      .rw[Jd,Lr E4]at c;simp at c
theorem b0s{ops:Array Oper}{i j:Nat}(h:((d5q ops).getD i 0).testBit j=true):Reach ops i j:=
 c1i ops ops.toList [] (λk=>E6) (λi j a=>by simp at a) i j h
def b2j(ks:List Nat)(o:Oper):Nat:=
 if Rh ks o==2 then 2 else match o.op with
 |.call {callee:=.value _,..}=>2
 |_=>Rh ks o
def d5t(o:Oper):Bool:=match o.op with
 |.call {callee:=.value (.tmp _),..}=>true
 |_=>false
def b2t(ks:List Nat)(o:Oper):Nat:=
 if Rh ks o==2 then 2 else match d5t o with
 |true=>1
 |false=>if o.after.toList.any λe=>Region.binds .any e&&ks.getD e.on 0==1 then(match o.op with
  |.store _ _ _=>1
  |_=>2)else Rh ks o
def f3a(ops:Array Oper)(o:Oper):Bool:=match o.op with
 |.call {callee:=.builtin .append,args:=⟨.tmp t::_⟩,..}=>ops.toList.any λy=>match y.op with
  |.buildSlice _ 0 _=>y.dst==some t
  |_=>false
 |_=>false
def b33(ops:Array Oper)(ks:List Nat)(o:Oper):Nat:=
 if o.after.toList.any λe=>Region.binds .any e&&ks.getD e.on 0==2 then 2 else match f3a ops o with
 |true=>0
 |false=>Rh ks o
def QI(o:Oper):Option (Nat×Nat):=match o.op,o.guard,o.dst with
 |.move (.tmp s),none,some d=>some (s,d)
 |_,_,_=>none
def d27(ops:Array Oper)(ks a:List Nat)(x:Oper×Nat):Bool:=match QI x.1 with
 |some (s,d)=>ops.toList.zipIdx.all λy=>y.1.dst !=some s&&(!(NW ops y.1).contains d||(ks.getD y.2 0==2&&(a.getD y.2 0).testBit x.2))
 |none=>false
def f2x(ops:Array Oper)(ks:List Nat):List Nat:=match ks.all (λk=>k !=2)with
 |true=>ks
 |false=>let a:=d5q ops
  ops.toList.zipIdx.map λx=>if ks.getD x.2 0==0&&(ops.toList.zipIdx.any λy=>ks.getD y.2 0==2&& !(a.getD y.2 0).testBit x.2)&&d27 ops ks a x then 3 else ks.getD x.2 0
def d15(ops:Array Oper)(ks:List Nat):Bool:=
 let l:=ops.toList.zipIdx
 let a:=d5q ops
 l.all (λx=>x.1.after.toList.all λe=> !Region.binds .any e||decide (e.on<x.2))&&
 Rk (l.filterMap λx=>x.1.dst)&&
 l.all (λx=>ks.getD x.2 0==2||(NW ops x.1).all λt=>l.all λy=>y.2==x.2||y.1.dst !=some t||(if y.2<x.2&&ks.getD y.2 0==0 then(a.getD x.2 0).testBit y.2 else(a.getD y.2 0).testBit x.2))&&
 l.all (λx=>ks.getD x.2 0 !=1||((x.1.dst==none||d5t x.1)&&x.1.guard.isNone&&l.all λy=> !(decide (y.2<x.2)&&ks.getD y.2 0==1)||FA x.1 y.2))&&
 l.all (λx=>match x.1.guard with|some (j,_)=>FA x.1 j|none=>true)&&
 l.all (λx=>ks.getD x.2 0 !=2||l.all λy=>y.2==x.2||(ks.getD y.2 0==2&&decide (x.2<y.2))||ks.getD y.2 0==3||(a.getD x.2 0).testBit y.2)&&
 l.all (λx=>ks.getD x.2 0 !=3||d27 ops ks a x)
def d5h(b:Nat)(ops:Array Oper):List Nat:=ops.toList.foldl (λa o=>a++[match b with|0=>Rh a o|1=>b2j a o|2=>b2t a o|_=>b33 ops a o]) []
def kinds(b:Nat)(ops:Array Oper):List Nat:=f2x ops (d5h b ops)
def Th(b:Nat)(ops:Array Oper):Bool:=d15 ops (kinds b ops)
def IX(b:Nat)(ops:Array Oper)(k:Nat):List (Oper×Nat):=ops.toList.zipIdx.filter λx=>(kinds b ops).getD x.2 0==k
def SP(b:Nat)(ops:Array Oper):List ((Oper×Nat)×List (Oper×Nat)):=(IX b ops 2).map λx=>(x,(IX b ops 3).filter λf=>match f.1.dst with|some d=>(NW ops x.1).contains d|none=>false)
def LZ(b:Nat)(ops:Array Oper):List Nat:=(IX b ops 3).filterMap (·.1.dst)
def NO(a:List Nat)(ρ:List Entry):List Entry:=ρ.filter λe=>a.contains e.slot
def SV.pureA:SV->Bool
 |.agg a=>a.all SV.pure
 |s=>s.pure
theorem c9y{w:World}{H H':Nat->Prop}{μ μ':Mu}(c:∀b,H' b->H b){s:SV}{v:Value}(h:D w H μ s v)(a:s.pureA=true):D w H' μ' s v:=by
 unfold SV.pureA at a;split at a
 .cases h with
  |agg d e f=>exact .agg d e λi s v hs g=>GN c (f i s v hs g) (Jp.1 a s (Jj hs))
 .exact GN c h a
def bornB(E:Env)(o:Oper):Bool:=match o.op with
 |.buildSlice _ _ _=>match o.dst with
  |some d=>E.fz d
  |none=>false
 |_=>false
def opdP(ρ:Operand->Option SV)(x:Operand):Option SV:=(ρ x).bind λs=>if s.pureA=true then some s else none
def c6p(P:Program)(ρ:Operand->Option SV)(a:Op):Option (Prop×SV):=match WO P [] (opdP ρ) a with
 |some (p,_,.row _ b n f c)=>some (p,.sl b n f c)
 |_=>none
theorem b7x{E:Env}{B0:Nat}{X A:Nat->Prop}{a:Act}{w:World}{μ:Mu}{own:List Blk}(u:Own B0 X A w μ own){ρ:Operand->Option SV}(m:∀(x:Operand) (s:SV),ρ x=some s->D w (held A μ) μ s (a.eval x)){o:Oper}{i:Prop}{s:SV}
 (l:c6p E.P ρ o.op=some (i,s)) (v:i):∃r j,(execOp a.eval o).run E.P w=.ok (.value r) j/\Fr w.heap.size (λ_=>False) w j/\D j (held A μ) μ s r:=by
 unfold c6p at l;split at l;rotate_left
 .cases l
 rename_i p y T B n f c d;cases l;have C:Own w.heap.size (λ_=>False) (held A μ) w (λ_=>none) [.row T B n f c]:=by
  refine⟨λk x h=>Eg,λk k' x x' b h=>Eg,λk x b h=>Eg,λb e=> ?_⟩;rcases e with e|⟨k,x,g,hx⟩
  .exact u.bnd b e
  .exact(u.rng k x b g hx).1
 obtain⟨r,j,μ',F,q,h3,G⟩:=b6j (E:=E) (own:=[]) C (Jm _) rfl (ρ:=opdP ρ) (λx s hs=>by
  unfold opdP at hs;simp only[Jn]at hs;obtain⟨s1,H,t⟩:=hs;split at t
  .rename_i I;cases t;refine c9y (λb e=> ?_) (m x _ H) I;rcases e with e|⟨k,x,g,_⟩
   .exact e
   .cases g
  .cases t) d v rfl
 refine⟨r,j,F,q.fr,?_⟩;have J:∃k,y=.osl k/\k=0:=by
  unfold WO at d;split at d<;>(try simp only[Jn,Jk]at d)
  .obtain⟨z,_,d⟩:=d;split at d<;>cases d
  .obtain⟨_,_,_,_,d⟩:=d;split at d<;>cases d
  .obtain⟨_,_,_,_,d⟩:=d;cases d;exact⟨0,rfl,rfl⟩
  .obtain⟨_,_,_,_,_,_,_,_,d⟩:=d;split at d<;>cases d
   exact⟨0,rfl,rfl⟩
  .obtain⟨_,_,_,_,_,_,d⟩:=d;split at d
   .split at d<;>cases d
    exact⟨0,rfl,rfl⟩
   .cases d
  .cases d
 obtain⟨k,rfl,rfl⟩:=J;cases G with
 |osl g=>
  obtain⟨bl,e,K⟩:=q.own.blk 0 _ g;cases e;exact d1b (λb e=>.inl e) (λb e=>(q.own.rng 0 _ b g e).2.1) K
def Qh(E:Env)(nt:Nat)(ops:Array Oper)(ρ:List Entry)(own:List Blk)(o:Oper):Option (Prop×Option Entry×Option Blk):=
 if !JN nt o.dst then none else
 match o.guard with
 |some (j,p)=>match o.dst,(ops[j]?).bind (·.dst)with
  |some d,some g=>if g<nt/\g≠d then(WP ρ 5 g p).bind λc=>match bornB E o with
   |true=>(c6p E.P (CE E ρ (some (g,p))) o.op).map λr=>(c->r.1,some ⟨d,some (g,p),r.2⟩,none)
   |false=>(Ra E ⟨ρ,own⟩ (some (g,p)) o.op).map λr=>(c->r.1,some ⟨d,some (g,p),r.2⟩,none)
   else none
  |_,_=>none
 |none=>match bornB E o with
  |true=>(c6p E.P (CE E ρ none) o.op).map λr=>(r.1,o.dst.map (λd=>⟨d,none,r.2⟩),none)
  |false=>match o.op with
   |.store _ _ _=>none
   |.alloc _|.box _ _|.buildSlice _ _ _|.makeSlice _ _ _=>(WO E.P own (CE E ρ none) o.op).map λr=>(r.1,o.dst.map (λd=>⟨d,none,r.2.1⟩),some r.2.2)
   |.makeMap T r=>(c8k E (CE E ρ none) T r).map λb=>(True,o.dst.map (λd=>⟨d,none,.omp own.length⟩),some b)
   |a=>match d64 E own (CE E ρ none) a with
    |some r=>some (r.1,o.dst.map (λd=>⟨d,none,r.2.1⟩),some r.2.2)
    |none=>match d1v E own (CE E ρ none) a with
     |some r=>some (r.1,o.dst.map (λd=>⟨d,none,r.2.1⟩),some r.2.2)
     |none=>(Ra E ⟨ρ,own⟩ none a).map λr=>(r.1,o.dst.map (λd=>⟨d,none,r.2⟩),none)
def PL(w:World)(H:Nat->Prop)(μ:Mu)(tmps:Array Value):Option Entry->Prop
 |none=>True
 |some e=>CU w H μ tmps e
section
variable{E:Env}{B0:Nat}{X A:Nat->Prop}{nt:Nat}{a:Act}{w:World}{μ:Mu}
theorem c3k(hE:EnvOK E)(hC:GM E){ρ:List Entry}{own y:List Blk}(F:Own B0 X A w μ y)(S:B0<=w.heap.size)(bf:∀(k:Nat) (bl:Blk),own[k]?=some bl->y[k]?=some bl)(G:∀g s,E.glob g=some s->s.pure=true/\D w (held A μ) μ s (.pointer (some ⟨g,0,none⟩)))
 (C:EN w (held A μ) μ a.tmps ρ) (bn:a.tmps.size=nt) {ops:Array Oper} {o:Oper} {U:Prop} {out:Option Entry} {bl:Option Blk} (m:Qh E nt ops ρ own o=some (U,out,bl)) (I:U)
 (W:∀b,bl=some b->μ own.length=none/\y[own.length]?=some b) {K:Act->World->Prop} {Q:Exit->Act->World->Prop}
 (hK:∀v t l,After B0 X A w t μ l y->(∀j,(bl.isSome=true->j≠own.length)->l j=μ j)->PL t (held A l) l (a.put o.dst v).tmps out->K (a.put o.dst v) t):
 (out.map (·.slot)=o.dst\/out=none/\o.dst=none)/\if Region.wanted o (yielded ops a.tmps)then o.wp E.P a w K Q else K (a.put o.dst undef) w:=by
 unfold Qh at m;split at m
 .cases m
 rename_i fx;have hd:JN nt o.dst=true:=by simpa using fx
 have calls:∀{t:World},Fr w.heap.size (λ_=>False) w t->After B0 X A w t μ μ y:=λz=>
  ⟨F.calls z,⟨z.os,z.tape,z.output,z.drawn,z.size,λi hi _=>z.block i (Kb hi S) (λh=>h)⟩,z.keeps⟩
 split at m
 .rename_i j p ke;split at m;rotate_left
  .cases m
  rename_i d g J zr;split at m;rotate_left
  .cases m
  rename_i b6;obtain⟨b6,ba⟩:=b6;simp only[Jn]at m;obtain⟨c,Y,m⟩:=m;have R:d<a.tmps.size:=by rw[bn];simpa[JN,J]using hd
  have hw:=b7s (a:=a) ke zr (by rw[bn];exact b6);have no:∀s,¬a.tmps.getD g undef=.bool p->PL w (held A μ) μ (a.put o.dst undef).tmps (some ⟨d,some (g,p),s⟩):=λs hb=>by rw[J];unfold PL CU Act.put;simp only;rw[Mo R,Mo R,Jf rfl,Jg ba];exact⟨λhh=>absurd hh hb,λ_=>rfl⟩
  have V:∀{s:SV} {v:Value} {t:World},a.tmps.getD g undef=.bool p->D t (held A μ) μ s v->PL t (held A μ) μ (a.put o.dst v).tmps (some ⟨d,some (g,p),s⟩):=λhb x=>by rw[J];unfold PL CU Act.put;simp only;rw[Mo R,Mo R,Jf rfl,Jg ba];exact⟨λ_=>x,λu=>absurd hb u⟩
  split at m
  .simp only[Iq]at m;obtain⟨⟨Z,s⟩,hs,rfl,rfl,rfl⟩:=m;refine⟨.inl (by simp[J]),?_⟩;split
   .rename_i dt;have hb:=hw.1 dt;have g8:=b08 C 5 g p c Y hb;obtain⟨r,t,H,z,x⟩:=b7x (E:=E) F (Qv (λn s u=>(G n s u).2) C (λq b e=>by cases e;exact hb)) hs (I g8);unfold Oper.wp;rw[H];exact hK r t μ (calls z) (λ_ _=>rfl) (V hb x)
   .rename_i dt;exact Dj
  simp only[Iq]at m;obtain⟨⟨Z,s⟩,hs,rfl,rfl,rfl⟩:=m;refine⟨.inl (by simp[J]),?_⟩;split
  .rename_i dt;have hb:=hw.1 dt;have g8:=b08 C 5 g p c Y hb;exact b1x hE hC F bf G C (g:=some (g,p)) (λq b e=>by cases e;exact hb) hs (I g8) (λv t x z=>hK v t μ (calls z) (λ_ _=>rfl) (V hb x))
  .rename_i dt;exact Dj
 .rename_i ke;rw[Jf F6];have put:∀{t:World} {l:Mu} {s:SV} {v:Value},D t (held A l) l s v->PL t (held A l) l (a.put o.dst v).tmps (o.dst.map λd=>⟨d,none,s⟩):=by
   intro t l s v x;cases J:o.dst with
   |none=>exact Ji
   |some d=>
    have R:d<a.tmps.size:=by rw[bn];simpa[JN,J]using hd
    simp only[Kn];unfold PL CU Act.put;simp only;rw[Mo R,Jf rfl];exact x
  have slot:∀s:SV,((o.dst.map λd=>(⟨d,none,s⟩:Entry)).map (·.slot)=o.dst\/(o.dst.map λd=>(⟨d,none,s⟩:Entry))=none/\o.dst=none):=by intro s;cases o.dst<;>simp
  split at m
  .simp only[Iq]at m;obtain⟨⟨Z,s⟩,u,rfl,rfl,rfl⟩:=m;obtain⟨r,t,H,z,x⟩:=b7x (E:=E) F (Qv (λn s u=>(G n s u).2) C (λq b e=>Eb)) u I;refine⟨slot s,?_⟩;unfold Oper.wp;rw[H];exact hK r t μ (calls z) (λ_ _=>rfl) (put x)
  split at m
  .cases m
  iterate 4
   .simp only[Iq]at m;obtain⟨⟨Z,s,b⟩,u,rfl,rfl,rfl⟩:=m;obtain⟨L,M⟩:=W b rfl;obtain⟨r,t,l,H,N,B,x⟩:=b6j F S L (Qv (λn s u=>(G n s u).2) C (λq b e=>Eb)) u I M;refine⟨slot s,?_⟩;unfold Oper.wp;rw[H];exact hK r t l N (λj O=>B j (O rfl)) (put x)
  .rename_i T r0 cy;simp only[Iq]at m;obtain⟨b,u,rfl,rfl,rfl⟩:=m;obtain⟨L,M⟩:=W b rfl;obtain⟨r,t,l,H,N,B,x⟩:=b1u hE F S L (Qv (λn s u=>(G n s u).2) C (λq b e=>Eb)) cy u M;refine⟨slot _,?_⟩;unfold Oper.wp;rw[H];exact hK r t l N (λj O=>B j (O rfl)) (put x)
  .split at m
   .rename_i r u;simp only[Ir]at m;obtain⟨rfl,rfl,rfl⟩:=m;obtain⟨L,M⟩:=W _ rfl;obtain⟨f,vals,bp,Y⟩:=c9k hC F S L G (Qv (λn s u=>(G n s u).2) C (λq b e=>Eb)) u I M;refine⟨slot _,?_⟩;unfold Oper.wp;rw[bp];refine Y.mono ?_;rintro e t ⟨v,l,rfl,N,B,x⟩;exact hK v t l N (λj O=>B j (O rfl)) (put x)
   split at m
   .rename_i r u;simp only[Ir]at m;obtain⟨rfl,rfl,rfl⟩:=m;obtain⟨L,M⟩:=W _ rfl;obtain⟨v,t,l,H,N,B,x⟩:=c9w F bf S L (Qv (λn s u=>(G n s u).2) C (λq b e=>Eb)) u I M;refine⟨slot _,?_⟩;unfold Oper.wp;rw[H];exact hK v t l N (λj O=>B j (O rfl)) (put x)
   .simp only[Iq]at m;obtain⟨⟨Z,s⟩,hs,rfl,rfl,rfl⟩:=m;refine⟨slot s,?_⟩;exact b1x hE hC F bf G C (g:=none) (λq b e=>Eb) hs I (λv t x z=>hK v t μ (calls z) (λ_ _=>rfl) (put x))
end
structure PI where
 o:Oper
 i:Nat
 own:List Blk
 out:Option Entry
 al:Option Blk
def Oj(a:List Nat)(e:Entry):Entry:=match e.guard with
 |some (g,_)=>if a.contains g then {e with guard:=none,sv:=.any}else e
 |none=>e
def QN(out:Option Entry)(a:List Entry):List Entry:=match out with
 |some e=>e::a
 |none=>a
def fO(o:Option Entry)(K:Option Entry->Prop):Prop:=match o with
 |none=>K none
 |some ⟨n,g,s⟩=>fG g λg=>s.f2 λs=>K (some ⟨n,g,s⟩)
theorem fO_eq(o:Option Entry)(K:Option Entry->Prop):fO o K=K o:=by
 match o with
 |none=>rfl
 |some ⟨n,g,s⟩=>simp only[fO,d94,SV.f2_eq]
def fA(own:List Blk)(c:Option Blk)(K:Option Blk->List Blk->Prop):Prop:=match c with
 |none=>K none own
 |some b=>fB (own++[b]) λa=>K (some b) a
theorem fA_eq(own:List Blk)(a:Option Blk)(K:Option Blk->List Blk->Prop):fA own a K=K a (own++a.toList):=by
 cases a
 .simp[fA]
 .simp[fA,VA]
def parK(E:Env)(d:Nat)(ops:Array Oper)(ρ0:List Entry)(K:List PI->List Entry->List Blk->Prop):List (Oper×Nat)->List PI->List Entry->List Blk->Prop
 | [],done,b,own=>K done b own
 |(o,i)::r,done,b,own=>match Qh E d ops (NO (NW ops o) (b++ρ0)) own o with
  |some (p,out,c)=>KP p/\fO out λout=>fA own c λc a=>parK E d ops ρ0 K r (⟨o,i,own,out,c⟩::done) (QN out b) a
  |none=>False
def UJ(ps:List PI)(i:Nat):List Entry:=(ps.filter λq=>decide (q.i<i)).filterMap (·.out)
def Uj(E:Env)(a:Nat)(ops:Array Oper)(ρ0:List Entry)(ps:List PI)(sd:List Oper)(own:List Blk):List PI->Prop
 | []=>True
 |q::r=>if sd.any (λs=>FA s q.i)then Uj E a ops ρ0 ps sd own r else match Qh E a ops (NO (NW ops q.o) (UJ ps q.i++ρ0)) own q.o with
  |some (p,out,none)=>KP p/\Qa out q.out/\Uj E a ops ρ0 ps sd own r
  |_=>False
def c70(E:Env)(b nb:Nat)(ρ:List Entry)(own:List Blk)(o:Oper):Option (Prop×List Blk×Option Entry):=match o.op with
 |.store T p x=>(CE E ρ none p).bind λc=>(CE E ρ none x).bind λe=>(TP E.P own T c e).bind λr=>match o.dst with
  |none=>some (r.1,r.2,none)
  |some _=>none
 |_=>match b8t E own (CE E ρ none) o.op with
  |some (p,s,a,[])=>match Nat.beq own.length nb&&Nat.beq a.length nb&&JN b o.dst with
   |true=>some (p,a,o.dst.map λd=>⟨d,none,s⟩)
   |false=>none
  |_=>none
def b9z(E:Env)(b nb:Nat)(ops:Array Oper)(ρ0:List Entry)(ps:List PI)(K:List Entry->List Blk->Prop):List (Oper×Nat)->List Oper->List Entry->List Blk->Prop
 | [],_,c,own=>K c own
 |(o,i)::r,d,c,own=>match c70 E b nb (NO (NW ops o) (UJ ps i++ρ0)) own o with
  |some (p,a,out)=>KP p/\fO out λout=>fB a λa=>Uj E b ops ρ0 ps (o::d) a ps/\b9z E b nb ops ρ0 ps K r (o::d) (QN out c) a
  |none=>False
def Qr(a:List Nat)(ρ:List Entry):List Entry:=(ρ.filter λe=> !a.contains e.slot).map (Oj a)
def RP(E:Env)(c:Nat)(b:Nat)(ops:Array Oper)(d:List Nat)(K:St->Prop):List ((Oper×Nat)×List (Oper×Nat))->St->Prop
 | [],a=>Oh E b ops K ((IX c ops 3).map (·.1)) a
 |g::r,a=>Oh E b ops (λa=>St.force ⟨Qr d a.ρ,a.own⟩ (RP E c b ops d K r)) (g.2.map (·.1)++[g.1.1]) a
def d77(E:Env)(c:Nat)(a:Nat)(ops:Array Oper)(K:St->Prop)(st:St):Prop:=match LZ c ops with
 | []=>Oh E a ops K ((IX c ops 2).map (·.1)) st
 |d::b=>St.force ⟨Qr (d::b) st.ρ,st.own⟩ (RP E c a ops (d::b) K (SP c ops))
def kb(c:Bool)(ops:Array Oper):Nat:=match c with
 |true=>match Th 1 ops with
  |true=>1
  |false=>match Th 2 ops with
   |true=>2
   |false=>0
 |false=>match ops.toList.any (f3a ops)with
  |true=>match Th 0 ops with
   |true=>0
   |false=>3
  |false=>0
def d7r(E:Env)(b:Nat)(ops:Array Oper)(K:St->Prop)(st:St):Prop:=Pc (kb E.c2 ops) λc=>
 let a:=(st.ρ.filter λe=> !(LZ c ops).contains e.slot).map (Oj (ops.toList.filterMap (·.dst)))
 fE a λa=>parK E b ops a (λd f own=>b9z E b st.own.length ops a d (λg own=>d77 E c b ops K ⟨g++(f++a),own⟩) (IX c ops 1) [] [] own) (IX c ops 0) [] [] st.own
def SC(ps:List PI)(ρ0:List Entry)(i:Nat)(ρ:List Entry):Prop:=
 ∀t e,CD t ρ=some e->(∃q∈ps,q.i<i/\q.out=some e)\/(CD t ρ0=some e/\∀q∈ps,q.i<i->∀a,q.out=some a->a.slot≠t)
theorem b4r{t:Nat}:∀(l r:List Entry),CD t (l++r)=match CD t l with|some e=>some e|none=>CD t r
 | [],r=>rfl
 |x::l,r=>by
  simp only[Mm,CD];split
  .rfl
  .exact b4r l r
theorem b2r{t:Nat}:∀{l:List Entry},CD t l=none↔∀e∈l,e.slot≠t
 | []=>by simp[CD]
 |x::l=>by
  simp only[CD,Jt,forall_eq_or_imp];split
  .rename_i h;simp[h]
  .rename_i h;rw[b2r];simp[h]
theorem NY{t:Nat}{e:Entry}:∀{l:List Entry},CD t l=some e->e∈l
 | [],h=>by simp[CD]at h
 |x::l,h=>by
  simp only[CD]at h;split at h
  .cases h;simp
  .exact K8 _ (NY h)
theorem b5u{ps:List PI}{ρ0 b:List Entry}{i:Nat}(d:∀e∈b,∃q∈ps,q.i<i/\q.out=some e)(f:∀q∈ps,q.i<i->∀e,q.out=some e->e∈b):SC ps ρ0 i (b++ρ0):=by
 intro t e a;rw[b4r]at a;split at a
 .rename_i x hx;cases a;exact .inl (d _ (NY hx))
 .rename_i g;exact .inr ⟨a,λq h j c k=>b2r.1 g c (f q h j c k)⟩
theorem b1r{ps:List PI}{ρ0:List Entry}{i:Nat}:SC ps ρ0 i (UJ ps i++ρ0):=by
 refine b5u (λe a=> ?_) (λq b c e a=> ?_)
 .simp only[UJ,Nc,Kv,Jq]at a;obtain⟨q,⟨b,c⟩,d⟩:=a;exact⟨q,b,c,d⟩
 .simp only[UJ,Nc,Kv,Jq];exact⟨q,⟨b,c⟩,a⟩
structure ParOK (E:Env) (nt:Nat) (ops:Array Oper) (ρ0:List Entry) (base own0:List Blk) (ps:List PI):Prop where
 step:∀q∈ps,∃ρ p,SC ps ρ0 q.i ρ/\Qh E nt ops (NO (NW ops q.o) ρ) q.own q.o=some (p,q.out,q.al)/\p
 sub:∀q∈ps,(∀(k:Nat) (bl:Blk),q.own[k]?=some bl->own0[k]?=some bl)/\∀b,q.al=some b->own0[q.own.length]?=some b
 low:∀q∈ps,base.length<=q.own.length
 one:∀q∈ps,∀q'∈ps,q.al.isSome=true->q'.al.isSome=true->q.own.length=q'.own.length->q.i=q'.i
 base:∀(k:Nat) (bl:Blk),base[k]?=some bl->own0[k]?=some bl
 top:∀q∈ps,q.al.isSome=true->q.own.length<own0.length
theorem g18{E:Env}{G:Nat}{ops:Array Oper}{ρ0:List Entry}{base:List Blk}{K:List PI->List Entry->List Blk->Prop}:∀(l:List (Oper×Nat)) (done:List PI) (m:List Entry) (own:List Blk),parK E G ops ρ0 K l done m own->
 ParOK E G ops ρ0 base own done->(∀e∈m,∃q∈done,q.out=some e)->(∀q∈done,∀e,q.out=some e->e∈m)->(∀q∈done,∀x∈l,q.i<x.2)->l.Pairwise (λx y=>x.2<y.2)->base.length<=own.length->(∀q∈done,∀d∈done,q.i=d.i->q=d)->
 ∃n s f,ParOK E G ops ρ0 base f n/\(∀e,e∈s↔∃q∈n,q.out=some e)/\K n s f/\(∀q,q∈n->q∈done\/(q.o,q.i)∈l)/\(∀x∈l,∃q∈n,q.o=x.1/\q.i=x.2)/\(∀q∈done,q∈n)/\base.length<=f.length/\∀q∈n,∀d∈n,q.i=d.i->q=d:=by
 intro l;induction l with
 |nil=>
  intro done m own h r F H _ _ v O;exact⟨done,m,own,r,λe=>⟨F e,λ⟨q,a,w⟩=>H q a e w⟩,h,λq a=>.inl a,λx hx=>by simp at hx,λq a=>a,v,O⟩
 |cons x l ih=>
  intro done m own h r F H W P v O;obtain⟨o,i⟩:=x;simp only[parK]at h;split at h;rotate_left
  .exact h.elim
  rename_i p out g hs;rw[fO_eq,fA_eq]at h;obtain⟨Q,h⟩:=h;replace Q:=Q.out;rw[Kz]at P;have I:∀q∈done,q.i<i:=λq a=>W q a (o,i) E6;have z:∀q∈done,∀A,SC done ρ0 q.i A->SC (⟨o,i,own,out,g⟩::done) ρ0 q.i A:=by
   intro q a A R t e c;rcases R t e c with⟨d,j,J,S⟩|⟨T,hn⟩
   .exact .inl ⟨d,K8 _ j,J,S⟩
   .refine .inr ⟨T,λd j J e' S=> ?_⟩;rcases Jt.1 j with rfl|j
    .have:=I q a;simp only at J;omega
    .exact hn d j J e' S
  have L:∀(k:Nat) (u:Blk),own[k]?=some u->(own++g.toList)[k]?=some u:=λk u B=>by rw[Jr (Jh.1 B).1];exact B
  have f8:SC (⟨o,i,own,out,g⟩::done) ρ0 i (m++ρ0):=by
   refine b5u (λe c=> ?_) (λq a hi e c=> ?_)
   .obtain⟨q,a,w⟩:=F e c;exact⟨q,K8 _ a,I q a,w⟩
   .rcases Jt.1 a with rfl|a
    .simp only at hi;omega
    .exact H q a e c
  have U:ParOK E G ops ρ0 base (own++g.toList) (⟨o,i,own,out,g⟩::done):=by
   refine⟨λq a=> ?_,λq a=> ?_,λq a=> ?_,λq a d j C X c=> ?_,λk u B=>L k u (r.base k u B),λq a C=> ?_⟩
   .rcases Jt.1 a with rfl|a
    .exact⟨m++ρ0,p,f8,hs,Q⟩
    .obtain⟨A,p',M,N,e3⟩:=r.step q a;exact⟨A,p',z q a A M,N,e3⟩
   .rcases Jt.1 a with rfl|a
    .refine⟨L,λb v=> ?_⟩;simp only at v;subst v;simp
    .obtain⟨s1,s2⟩:=r.sub q a;exact⟨λk u B=>L k u (s1 k u B),λb v=>L _ _ (s2 b v)⟩
   .rcases Jt.1 a with rfl|a
    .exact v
    .exact r.low q a
   .rcases Jt.1 a with rfl|a<;>rcases Jt.1 j with rfl|j
    .rfl
    .have:=r.top d j X;simp only at c;omega
    .have:=r.top q a C;simp only at c;omega
    .exact r.one q a d j C X c
   .rcases Jt.1 a with rfl|a
    .simp only at C⊢;cases g with
     |none=>simp at C
     |some b=>simp
    .have:=r.top q a C;rw[Kj];omega
  have k1:∀e∈QN out m,∃q∈(⟨o,i,own,out,g⟩:PI)::done,q.out=some e:=by
   intro e c;unfold QN at c;split at c
   .rename_i e0;rcases Jt.1 c with rfl|c
    .exact⟨_,Nd,rfl⟩
    .obtain⟨q,a,w⟩:=F e c;exact⟨q,K8 _ a,w⟩
   .obtain⟨q,a,w⟩:=F e c;exact⟨q,K8 _ a,w⟩
  have k2:∀q∈(⟨o,i,own,out,g⟩:PI)::done,∀e,q.out=some e->e∈QN out m:=by
   intro q a e c;unfold QN;rcases Jt.1 a with rfl|a
   .simp only at c;subst c;simp
   .have:=H q a e c;split
    .exact K8 _ this
    .exact this
  have k3:∀q∈(⟨o,i,own,out,g⟩:PI)::done,∀x∈l,q.i<x.2:=by
   intro q a x hx;rcases Jt.1 a with rfl|a
   .exact P.1 x hx
   .exact W q a x (K8 _ hx)
  have k4:∀q∈(⟨o,i,own,out,g⟩:PI)::done,∀d∈(⟨o,i,own,out,g⟩:PI)::done,q.i=d.i->q=d:=by
   intro q a d j e;rcases Jt.1 a with M|Y<;>rcases Jt.1 j with N|Z
   .rw[M,N]
   .rw[M]at e;have:=I d Z;simp only at e;omega
   .rw[N]at e;have:=I q Y;simp only at e;omega
   .exact O q Y d Z e
  obtain⟨n,s,f,r1,r2,r3,r4,r5,r6,r7,r8⟩:=ih (⟨o,i,own,out,g⟩::done) (QN out m) (own++g.toList) h U k1 k2 k3 P.2 (by rw[Kj];omega) k4;refine⟨n,s,f,r1,r2,r3,λq a=> ?_,λx hx=> ?_,λq a=>r6 q (K8 _ a),r7,r8⟩
  .rcases r4 q a with V|T
   .rcases Jt.1 V with rfl|V
    .exact .inr Nd
    .exact .inl V
   .exact .inr (K8 _ T)
  .rcases Jt.1 hx with rfl|hx
   .exact⟨⟨o,i,own,out,g⟩,r6 _ Nd,rfl,rfl⟩
   .exact r5 x hx
structure Draws (b:Nat) (ops:Array Oper):Prop where
 lt:∀(i:Nat) (o:Oper) (j:Nat),ops[i]?=some o->FA o j=true->j<i
 uniq:∀(i:Nat) (o:Oper) (j:Nat) (o':Oper) (d:Nat),ops[i]?=some o->ops[j]?=some o'->o.dst=some d->o'.dst=some d->i=j
 names:∀(i:Nat) (o:Oper) (t j:Nat) (o':Oper),ops[i]?=some o->(kinds b ops).getD i 0≠2->t∈NW ops o->ops[j]?=some o'->j≠i->o'.dst=some t->if j<i/\(kinds b ops).getD j 0=0 then Reach ops i j else Reach ops j i
 store:∀(i:Nat) (o:Oper),ops[i]?=some o->(kinds b ops).getD i 0=1->o.guard=none/\∀(j:Nat) (o':Oper),ops[j]?=some o'->j<i->(kinds b ops).getD j 0=1->FA o j=true
 guard:∀(i:Nat) (o:Oper) (j:Nat) (p:Bool),ops[i]?=some o->o.guard=some (j,p)->FA o j=true
 last:∀(i:Nat) (o:Oper) (j:Nat) (o':Oper),ops[i]?=some o->(kinds b ops).getD i 0=2->ops[j]?=some o'->j≠i->¬((kinds b ops).getD j 0=2/\i<j)->(kinds b ops).getD j 0≠3->Reach ops i j
 free:∀(i:Nat) (o:Oper),ops[i]?=some o->(kinds b ops).getD i 0=3->∃s d,QI o=some (s,d)/\∀(j:Nat) (o':Oper),ops[j]?=some o'->o'.dst≠some s/\(d∈NW ops o'->(kinds b ops).getD j 0=2/\Reach ops j i)
theorem OH{ops:Array Oper}{i:Nat}{o:Oper}(h:ops[i]?=some o):(o,i)∈ops.toList.zipIdx:=by rw[List.mk_mem_zipIdx_iff_getElem?];simpa using h
theorem g0b{ops:Array Oper}{i:Nat}{o:Oper}(h:(o,i)∈ops.toList.zipIdx):ops[i]?=some o:=by rw[List.mk_mem_zipIdx_iff_getElem?]at h;simpa using h
theorem b6n:∀{l:List Nat},Rk l=true->l.Nodup
 | [],_=>Na
 |x::r,h=>by simp only[Rk,Jb,Nm,Lt]at h;exact Lc.2 ⟨h.1,b6n h.2⟩
theorem b8g{l:List (Oper×Nat)}(e:l.Pairwise (λx y=>x.2≠y.2))(h:(l.filterMap λx=>x.1.dst).Nodup):∀x∈l,∀y∈l,∀d,x.1.dst=some d->y.1.dst=some d->x=y:=by
 induction l with
 |nil=>intro x hx;simp at hx
 |cons z l m=>
  rw[Kz]at e;have n:(l.filterMap λx=>x.1.dst).Nodup:=by
   rw[List.filterMap_cons]at h;split at h
   .exact h
   .exact(Lc.1 h).2
  have f:∀y∈l,∀d,z.1.dst=some d->y.1.dst=some d->False:=by intro y c d a b;rw[List.filterMap_cons,a]at h;exact(Lc.1 h).1 (Nc.2 ⟨y,c,b⟩)
  intro x hx y c d a b;rcases Jt.1 hx with g|i<;>rcases Jt.1 c with j|k
  .rw[g,j]
  .rw[g]at a;exact(f y k d a b).elim
  .rw[j]at b;exact(f x i d b a).elim
  .exact m e.2 n x i y k d a b
theorem c5m(ops:Array Oper):ops.toList.zipIdx.Pairwise (λx y=>x.2<y.2):=by rw[Kg];intro i j hi hj dm;simp only[List.getElem_zipIdx];omega
theorem d8k{m:Nat}{ops:Array Oper}(h:Th m ops=true):Draws m ops:=by
 unfold Th d15 at h;simp only[K9]at h;obtain⟨⟨⟨⟨⟨⟨u,C⟩,v⟩,w⟩,x⟩,y⟩,z⟩:=h;rw[Jp]at u v w y x z;refine⟨λi o j a A=> ?_,λi o j k d a b f E=> ?_,λi o t j k a c F b n f=> ?_,λi o a c=> ?_,λi o j p a q=> ?_,λi o j k a c b n G r=> ?_,λi o a c=> ?_⟩
 .have:=Jp.1 (u _ (OH a));simp only[FA,Jz,J8]at A;obtain⟨e,H,I,rfl⟩:=A;have:=this e H;rw[I]at this;simpa using this
 .have:=b8g ((c5m ops).imp λh=>Nat.ne_of_lt h) (b6n C) _ (OH a) _ (OH b) d f E;exact Md Prod.snd this
 .have:=v _ (OH a);simp only[Kk,M6]at this;rcases this with h|h
  .exact absurd h c
  .have:=Jp.1 (Jp.1 h t F) _ (OH b);simp only[Kk,M6,bne_iff_ne,ne_eq]at this;rcases this with(h|h)|h
   .exact absurd h n
   .exact absurd f h
   .by_cases g:j<i/\(kinds m ops).getD j 0=0
    .rw[Jf g];rw[Jf ⟨by simpa using g.1,g.2⟩]at h;exact b0s h
    .rw[Jg g];rw[Jg (λB=>g ⟨by simpa using B.1,B.2⟩)]at h;exact b0s h
 .have:=w _ (OH a);simp only[Kk,bne_iff_ne,ne_eq,J8,Option.isNone_iff_eq_none]at this;rcases this with h|⟨⟨_,q⟩,hs⟩
  .exact absurd c h
  .refine⟨q,λj k b J K=> ?_⟩;have:=Jp.1 hs _ (OH b);rw[Kk]at this;rcases this with h|h
   .exfalso;rw[K2 J,K]at h;simp at h
   .exact h
 .have:=x _ (OH a);simp only[q]at this;exact this
 .have:=y _ (OH a);simp only[Kk,bne_iff_ne,ne_eq]at this;rcases this with h|h
  .exact absurd c h
  .have:=Jp.1 h _ (OH b);simp only[Kk,M6,Ix]at this;rcases this with((h|h)|h)|h
   .exact absurd h n
   .exact absurd h G
   .exact absurd h r
   .exact b0s h
 .have:=z _ (OH a);simp only[Kk,bne_iff_ne,ne_eq]at this;rcases this with h|h
  .exact absurd c h
  .unfold d27 at h;split at h
   .rename_i s d L;refine⟨s,d,L,λj k b=> ?_⟩;have:=Jp.1 h _ (OH b);simp only[J8,bne_iff_ne,ne_eq,Kk,Bool.not_eq_true',Nm,Lt]at this;refine⟨this.1,λf=> ?_⟩;rcases this.2 with l|l
    .exact absurd f l
    .exact⟨l.1,b0s l.2⟩
   .cases h
theorem Ol{c:Nat}{ops:Array Oper}{k i:Nat}{o:Oper}:(o,i)∈IX c ops k↔ops[i]?=some o/\(kinds c ops).getD i 0=k:=by unfold IX;rw[Kv];simp only[M6];exact⟨λ⟨a,b⟩=>⟨g0b a,b⟩,λ⟨a,b⟩=>⟨OH a,b⟩⟩
theorem Pj{o:Oper}{s d:Nat}(h:QI o=some (s,d)):o.dst=some d:=by
 unfold QI at h;split at h
 .cases h;assumption
 .cases h
theorem c1a{o:Oper}{s d:Nat}(h:QI o=some (s,d)):o.op=.move (.tmp s)/\o.guard=none:=by
 unfold QI at h;split at h
 .cases h;exact⟨E8,E8⟩
 .cases h
theorem Rq{c:Nat}{ops:Array Oper}{d:Nat}:d∈LZ c ops↔∃i o,ops[i]?=some o/\(kinds c ops).getD i 0=3/\o.dst=some d:=by
 unfold LZ;rw[Nc];constructor
 .rintro⟨⟨o,i⟩,a,b⟩;obtain⟨e,f⟩:=Ol.1 a;exact⟨i,o,e,f,b⟩
 .rintro⟨i,o,a,b,g⟩;exact⟨(o,i),Ol.2 ⟨a,b⟩,g⟩
theorem b1z(a:Nat)(ops:Array Oper)(k:Nat):(IX a ops k).Pairwise (λx y=>x.2<y.2):=(c5m ops).filter _
theorem b03{c:List Nat}{t:Nat}{e:Entry}:∀{ρ:List Entry},CD t (NO c ρ)=some e->t∈c/\CD t ρ=some e
 | [],h=>by simp[NO,CD]at h
 |x::r,h=>by
  simp only[NO,List.filter_cons]at h;split at h
  .rename_i a;simp only[CD]at h⊢;split at h
   .rename_i hs;cases h;exact⟨by rw[<-hs];simpa using a,by rw[Jf hs]⟩
   .rename_i hs;obtain⟨h1,b⟩:=b03 (ρ:=r) h;exact⟨h1,by rw[Jg hs];exact b⟩
  .rename_i a;obtain⟨h1,b⟩:=b03 (ρ:=r) h;refine⟨h1,?_⟩;simp only[CD];rw[Jg (λhs=>by subst hs;exact a F0)];exact b
theorem TO{E:Env}{nt:Nat}{ops:Array Oper}{ρ:List Entry}{own:List Blk}{o:Oper}{p:Prop}{out:Option Entry}{l:Option Blk}(a:Qh E nt ops ρ own o=some (p,out,l)):
 out.map (·.slot)=o.dst/\(∀e,out=some e->∀g b,e.guard=some (g,b)->∃j h,o.guard=some (j,h)/\(ops[j]?).bind (·.dst)=some g):=by
 have slot:∀s:SV,(o.dst.map λd=>(⟨d,none,s⟩:Entry)).map (·.slot)=o.dst:=by intro s;cases o.dst<;>simp
 have noguard:∀s:SV,∀e,(o.dst.map λd=>(⟨d,none,s⟩:Entry))=some e->∀g b,e.guard=some (g,b)->∃j h,o.guard=some (j,h)/\(ops[j]?).bind (·.dst)=some g:=by intro s e a g b i;rw[Jk]at a;obtain⟨d,_,rfl⟩:=a;cases i
 unfold Qh at a;split at a
 .cases a
 split at a
 .rename_i j f m;split at a;rotate_left
  .cases a
  rename_i d g n q;split at a;rotate_left
  .cases a
  simp only[Jn]at a;obtain⟨c,hc,a⟩:=a;split at a;all_goals
   simp only[Iq]at a;obtain⟨⟨p1,s⟩,hs,rfl,rfl,rfl⟩:=a;refine⟨by simp[n],λe a g' b i=> ?_⟩;cases a;cases i;exact⟨j,f,m,q⟩
 .split at a
  .simp only[Iq]at a;obtain⟨⟨f,s⟩,k,rfl,rfl,rfl⟩:=a;exact⟨slot s,noguard s⟩
  split at a
  .cases a
  iterate 4
   .simp only[Iq]at a;obtain⟨⟨f,s,b⟩,k,rfl,rfl,rfl⟩:=a;exact⟨slot s,noguard s⟩
  .simp only[Iq]at a;obtain⟨b,k,rfl,rfl,rfl⟩:=a;exact⟨slot _,noguard _⟩
  .split at a
   .simp only[Ir]at a;obtain⟨rfl,rfl,rfl⟩:=a;exact⟨slot _,noguard _⟩
   split at a
   .simp only[Ir]at a;obtain⟨rfl,rfl,rfl⟩:=a;exact⟨slot _,noguard _⟩
   .simp only[Iq]at a;obtain⟨⟨f,s⟩,hs,rfl,rfl,rfl⟩:=a;exact⟨slot s,noguard s⟩
theorem b13(a:List Nat)(e:Entry):(Oj a e).slot=e.slot:=by unfold Oj;split<;>(try split)<;>rfl
theorem b5x{E:Env}{nt:Nat}{ops:Array Oper}{ρ0:List Entry}{ps:List PI}{sd:List Oper}{own:List Blk}:∀{l:List PI},Uj E nt ops ρ0 ps sd own l->∀q∈l,(∃s∈sd,FA s q.i=true)\/
 ∃p,Qh E nt ops (NO (NW ops q.o) (UJ ps q.i++ρ0)) own q.o=some (p,q.out,none)/\p
 | [],_,q,a=>by simp at a
 |x::r,h,q,a=>by
  simp only[Uj]at h;split at h
  .rename_i b;rcases Jt.1 a with rfl|a
   .exact .inl (by simpa using b)
   .exact b5x h q a
  .split at h
   .rename_i p out hs;rcases Jt.1 a with rfl|a
    .exact .inr ⟨p,by rw[<-h.2.1.out];exact hs,h.1.out⟩
    .exact b5x h.2.2 q a
   .exact h.elim
theorem b71{P:Program}{own own':List Blk}{T:TypeId}{p x:SV}{b:Prop}(a:TP P own T p x=some (b,own')):own'.length=own.length:=by
 unfold TP at a;simp only[J3]at a;obtain⟨n,hn,us,jv,a⟩:=a;repeat' split at a
 all_goals first|(cases a;simp;done)|cases a
section
variable{E:Env}{B0:Nat}{X A:Nat->Prop}{w0:World}{nt:Nat}{ops:Array Oper}{st:St}{a0:Act}{ρ0:List Entry}{ps:List PI}{es:List Entry}{own0:List Blk}{K:St->Prop}
def Ld(listed:Array Bool)(i:Nat):Prop:=listed.getD i true=true
structure Inv1 (E:Env) (B0:Nat) (X A:Nat->Prop) (w0:World) (nt:Nat) (ops:Array Oper) (st:St) (a0:Act) (ρ0:List Entry) (ps:List PI) (es:List Entry) (own0:List Blk) (K:St->Prop)
 (listed:Array Bool) (a:Act) (w:World) (μ:Mu) (sd:List Oper) (xs:List Entry) (sr:List (Oper×Nat)) (om:List Blk):Prop where
 own:Own B0 X A w μ om
 len:om.length=own0.length
 fr:Fr B0 X w0 w
 base:B0<=w.heap.size
 glo:∀g s,E.glob g=some s->s.pure=true/\D w (held A μ) μ s (.pointer (some ⟨g,0,none⟩))
 dfr:a.defers=[]
 size:a.tmps.size=nt
 sk:b9z E nt st.own.length ops ρ0 ps (λxs own=>d77 E (kb E.c2 ops) nt ops K ⟨xs++(es++ρ0),own⟩) sr sd xs om
 late:om=own0\/Uj E nt ops ρ0 ps sd om ps
 sdL:∀s∈sd,∃i,ops[i]?=some s/\(kinds (kb E.c2 ops) ops).getD i 0=1/\Ld listed i
 xsE:∀e∈xs,e.guard=none/\CU w (held A μ) μ a.tmps e/\∃s∈sd,s.dst=some e.slot
 xsA:∀s∈sd,∀d,s.dst=some d->∃e∈xs,e.slot=d
 srU:∀x∈sr,ops[x.2]?=some x.1/\(kinds (kb E.c2 ops) ops).getD x.2 0=1/\¬Ld listed x.2
 srA:∀(i:Nat) (o:Oper),ops[i]?=some o->(kinds (kb E.c2 ops) ops).getD i 0=1->¬Ld listed i->(o,i)∈sr
 srP:sr.Pairwise (λx y=>x.2<y.2)
 ent:∀q∈ps,Ld listed q.i->PL w (held A μ) μ a.tmps q.out
 tmp:∀t,(∀q∈ps,Ld listed q.i->q.o.dst≠some t)->t∉LZ (kb E.c2 ops) ops->(∀s∈sd,s.dst≠some t)->a.tmps.getD t undef=a0.tmps.getD t undef
 frd:∀(i:Nat) (o:Oper) (s d:Nat),ops[i]?=some o->(kinds (kb E.c2 ops) ops).getD i 0=3->QI o=some (s,d)->Ld listed i->d<nt->a.tmps.getD d undef=a0.tmps.getD s undef
 fresh:∀k,st.own.length<=k->(∀q∈ps,Ld listed q.i->q.al.isSome=true->q.own.length≠k)->μ k=none
 env0:EN w (held A μ) μ a0.tmps ρ0
 closed:∀(i:Nat) (o:Oper) (j:Nat),ops[i]?=some o->Ld listed i->FA o j=true->Ld listed j
 anc:∀k x,E.an k=some x->μ k=some x
 no2:∀(i:Nat) (o:Oper),ops[i]?=some o->(kinds (kb E.c2 ops) ops).getD i 0=2->¬Ld listed i
theorem b12{ops:Array Oper}{listed:Array Bool}(c:∀(i:Nat) (o:Oper) (j:Nat),ops[i]?=some o->Ld listed i->FA o j=true->Ld listed j){i j:Nat}(h:Reach ops i j):Ld listed i->Ld listed j:=by
 induction h with
 |one h a=>exact λb=>c _ _ _ h b a
 |more h a _ d=>exact λb=>d (c _ _ _ h b a)
theorem b0c{ops:Array Oper}{listed:Array Bool}(d:∀(i:Nat) (o:Oper) (j:Nat),ops[i]?=some o->Ld listed i->FA o j=true->Ld listed j){i j:Nat}(h:Reach ops i j){o:Oper}(a:ops[i]?=some o)(c:∀j,FA o j=true->Ld listed j):Ld listed j:=by
 cases h with
 |one h b=>rw[h]at a;cases a;exact c _ b
 |more h b e=>rw[h]at a;cases a;exact b12 d e (c _ b)
structure Fixed (E:Env) (nt:Nat) (ops:Array Oper) (st:St) (ρ0:List Entry) (ps:List PI) (es:List Entry) (own0:List Blk):Prop where
 dr:Draws (kb E.c2 ops) ops
 par:ParOK E nt ops ρ0 st.own own0 ps
 pin:∀q∈ps,ops[q.i]?=some q.o/\(kinds (kb E.c2 ops) ops).getD q.i 0=0
 pall:∀(i:Nat) (o:Oper),ops[i]?=some o->(kinds (kb E.c2 ops) ops).getD i 0=0->∃q∈ps,q.o=o/\q.i=i
 es:∀e,e∈es↔∃q∈ps,q.out=some e
 fno:∀e∈ρ0,e.slot∉LZ (kb E.c2 ops) ops
 gno:∀e∈ρ0,∀g b,e.guard=some (g,b)->∀(i:Nat) (o:Oper),ops[i]?=some o->o.dst≠some g
 top:st.own.length<=own0.length
 uni:∀q∈ps,∀q'∈ps,q.i=q'.i->q=q'
variable{listed:Array Bool}{a:Act}{w:World}{μ:Mu}{sd:List Oper}{xs:List Entry}{sr:List (Oper × Nat)}{om:List Blk}
theorem f3e(c:Fixed E nt ops st ρ0 ps es own0)(h:Inv1 E B0 X A w0 nt ops st a0 ρ0 ps es own0 K listed a w μ sd xs sr om){i:Nat}{o:Oper}(r:ops[i]?=some o)(y:(kinds (kb E.c2 ops) ops).getD i 0≠2)(_:(kinds (kb E.c2 ops) ops).getD i 0≠3)(hi:¬Ld listed i)(V:∀j,FA o j=true->Ld listed j)
 {ρ:List Entry} (H:SC ps ρ0 i ρ):EN w (held A μ) μ a.tmps (NO (NW ops o) ρ):=by
 intro t e z;obtain⟨B,z⟩:=b03 z;have R:=ML z;rcases H t e z with⟨q,k,C,S⟩|⟨F,W⟩
 .obtain⟨I,p,_,hs,_⟩:=c.par.step q k;have f:q.o.dst=some t:=by
   have:=(TO hs).1;rw[S]at this;rw[<-this];simp[R]
  obtain⟨J,T⟩:=c.pin q k;have:=c.dr.names i o t q.i q.o r y B J (Nat.ne_of_lt C) f;rw[Jf ⟨C,T⟩]at this;have:=h.ent q k (b0c h.closed this r V);rw[S]at this;exact this
 .have l:=h.env0 t e F;have m:∀u,(∀q∈ps,Ld listed q.i->q.o.dst≠some u)->u∉LZ (kb E.c2 ops) ops->(∀s∈sd,s.dst≠some u)->a.tmps.getD u undef=a0.tmps.getD u undef:=h.tmp;have v:a.tmps.getD t undef=a0.tmps.getD t undef:=by
   refine m t (λq k x f=> ?_) (λL=>by
    obtain⟨j,M,N,U,O⟩:=Rq.1 L;obtain⟨s,d,f1,f2⟩:=c.dr.free j M N U;have f:d=t:=by have:=Pj f1;rw[O]at this;exact(Kh this).symm
    subst f;exact y ((f2 i o r).2 B).1) (λs hs f=>by
    obtain⟨j,P,dp,x⟩:=h.sdL s hs;have G:j≠i:=λe=>hi (e▸x);have:=c.dr.names i o t j s r y B P G f;rw[Jg E4]at this;exact hi (b12 h.closed this x))
   obtain⟨J,T⟩:=c.pin q k;have G:q.i≠i:=λe=>hi (e▸x);rcases Nat.lt_or_gt_of_ne G with C|ry
   .obtain⟨I,p,_,hs,_⟩:=c.par.step q k;have Q:=(TO hs).1;rw[f]at Q;rw[Jk]at Q;obtain⟨Y,Z,hs'⟩:=Q;exact W q k C Y Z hs'
   .have:=c.dr.names i o t q.i q.o r y B J G f;rw[Jg E4]at this;exact hi (b12 h.closed this x)
  unfold CU at l⊢;rw[R]at l⊢;split
  .rename_i n;rw[n]at l;simp only at l;rw[v];exact l
  .rename_i g b n;rw[n]at l;simp only at l;have sg:a.tmps.getD g undef=a0.tmps.getD g undef:=m g (λq k _ f=>c.gno e (NY F) g b n q.i q.o (c.pin q k).1 f) (λL=>by
    obtain⟨j,M,N,U,O⟩:=Rq.1 L;exact c.gno e (NY F) g b n j M N O) (λs hs f=>by
    obtain⟨j,P,_,_⟩:=h.sdL s hs;exact c.gno e (NY F) g b n j s P f)
   rw[v,sg];exact l
end
section
variable{E:Env}{B0:Nat}{X A:Nat->Prop}{w0:World}{nt:Nat}{ops:Array Oper}{st:St}{a0:Act}{ρ0:List Entry}{ps:List PI}{es:List Entry}{own0:List Blk}{K:St->Prop}
variable{listed:Array Bool}{a:Act}{w:World}{μ:Mu}{sd:List Oper}{xs:List Entry}{sr:List (Oper × Nat)}{om:List Blk}
theorem DC{i j:Nat}(hi:i<listed.size):Ld (listed.setIfInBounds i true) j↔j=i\/Ld listed j:=by
 unfold Ld;by_cases e:j=i
 .subst e;simp[hi]
 .simp[e,M8 (Ne.symm e)]
theorem CU.keep{w w':World}{H H':Nat->Prop}{μ μ':Mu}{tmps:Array Value}{e:Entry}(a:Keeps w w' H H' μ μ')(h:CU w H μ tmps e):CU w' H' μ' tmps e:=by
 unfold CU at h⊢;split at h
 .exact h.keep a
 .exact⟨λb=>(h.1 b).keep a,h.2⟩
theorem PU{d:Option Nat}{v:Value}{t:Nat}(h:d≠some t):(a.put d v).tmps.getD t undef=a.tmps.getD t undef:=by
 cases d with
 |none=>rfl
 |some d=>
  have b:d≠t:=λe=>h (by rw[e]);simp[Act.put,M8 b]
theorem CU.put{H:Nat->Prop}{e:Entry}{d:Option Nat}{v:Value}(hs:d≠some e.slot)(c:∀g b,e.guard=some (g,b)->d≠some g)(h:CU w H μ a.tmps e):CU w H μ (a.put d v).tmps e:=by
 unfold CU at h⊢;split at h
 .rw[PU hs];exact h
 .rename_i g b f;rw[PU hs,PU (c g b f)];exact h
theorem d7e(hE:EnvOK E)(hC:GM E)(c:Fixed E nt ops st ρ0 ps es own0)(h:Inv1 E B0 X A w0 nt ops st a0 ρ0 ps es own0 K listed a w μ sd xs sr om)(bn:listed.size=ops.size){i:Nat}{o:Oper}(ho:ops[i]?=some o)(hk:(kinds (kb E.c2 ops) ops).getD i 0=0)
 (hi:¬Ld listed i) (hr:∀j,FA o j=true->Ld listed j) {U:Act->World->Prop} {Q:Exit->Act->World->Prop}
 (hK:∀a' M G,Inv1 E B0 X A w0 nt ops st a0 ρ0 ps es own0 K (listed.setIfInBounds i true) a' M G sd xs sr om->U a' M):wpOp E.P ops Q i U a w:=by
 have bk:i<listed.size:=Fs;obtain⟨q,y,rfl,rfl⟩:=c.pall i o ho hk;have ev:∃J f N p,SC ps ρ0 q.i J/\Qh E nt ops (NO (NW ops q.o) J) f q.o=some (p,q.out,N)/\p/\(∀(k:Nat) (b:Blk),f[k]?=some b->om[k]?=some b)/\(N=none\/f=q.own/\N=q.al/\om=own0):=by
  rcases h.late with e|hl
  .obtain⟨J,p,h1,V,W⟩:=c.par.step q y;exact⟨J,q.own,q.al,p,h1,V,W,by rw[e];exact(c.par.sub q y).1,.inr ⟨rfl,rfl,e⟩⟩
  .rcases b5x hl q y with⟨s,hs,hw⟩|⟨p,V,W⟩
   .obtain⟨j,hj,_,hL⟩:=h.sdL s hs;exact absurd (h.closed j s q.i hj hL hw) hi
   .exact⟨_,om,none,p,b1r,V,W,λ_ _ h=>h,.inl rfl⟩
 obtain⟨J,f,N,p,Y,hs,hp,bf,d8⟩:=ev;have cu:=f3e c h ho E4 E4 hi hr Y;have jq:=(TO hs).1;have m:=(c3k hE hC h.own h.base bf h.glo cu h.size hs hp (λb C=>by
  rcases d8 with e|⟨rfl,rfl,rfl⟩
  .rw[e]at C;cases C
  .refine⟨h.fresh _ (c.par.low q y) (λn r hL u I=> ?_),(c.par.sub q y).2 b C⟩;have:=c.par.one n r q y u (by rw[C];rfl) I;exact hi (this▸hL)) (K:=U) (Q:=Q) (λv M G u Z dn=>hK _ M G ?_)).2
 .unfold wpOp;rw[ho];simp only;split
  .rename_i hw;rw[Jf hw]at m;exact .inl m
  .rename_i hw;rw[Jg hw]at m;exact m
 .have F:∀t,q.o.dst≠some t->(a.put q.o.dst v).tmps.getD t undef=a.tmps.getD t undef:=λt O=>PU O;refine⟨u.own,h.len,h.fr.trans u.fr,Lk h.base u.fr.size,MZ u.keeps h.glo,by cases q.o.dst<;>exact h.dfr,by cases q.o.dst<;>simp[Act.put,h.size],h.sk,h.late,λs hs=> ?_,λe I=> ?_,h.xsA,λx hx=> ?_,λj o' hj dp R=> ?_,h.srP,
   λn r hL=> ?_,λt O hf z=> ?_,λj o' s d hj dp je hL H=> ?_,λk dh R=> ?_,h.env0.keep u.keeps,λj o' l hj hL hw=> ?_,λj x hx=>u.keeps.own _ _ (h.anc j x hx),λj o' hj dp hL=> ?_⟩
  .obtain⟨j,hj,dp,hL⟩:=h.sdL s hs;exact Cw
  .obtain⟨e1,e2,s,hs,z⟩:=h.xsE e I;obtain⟨j,hj,dp,_⟩:=h.sdL s hs;refine⟨e1,(CU.keep u.keeps e2).put (λH=> ?_) (λg b S=>by rw[e1]at S;cases S),s,hs,z⟩;have:=c.dr.uniq _ _ _ _ _ ho hj H z;rw[this]at hk;omega
  .obtain⟨x1,x2,x3⟩:=h.srU x hx;refine⟨x1,x2,λhL=> ?_⟩;rcases(DC bk).1 hL with e|hL
   .rw[e]at x2;omega
   .exact x3 hL
  .exact h.srA j o' hj dp (λhL=>R ((DC bk).2 (.inr hL)))
  .rcases(DC bk).1 hL with e|hL
   .rw[c.uni n r q y e];exact dn
   .have B:=h.ent n r hL;have T:n.i≠q.i:=λe=>hi (e▸hL);obtain⟨ρ',p',_,hs',_⟩:=c.par.step n r;obtain⟨L,sl2⟩:=TO hs';unfold PL at B⊢;split
    .exact Ji
    .rename_i e I;rw[I]at B L;simp only at B;refine(CU.keep u.keeps B).put (λH=> ?_) (λg b S H=> ?_)
     .have:n.o.dst=some e.slot:=by rw[<-L];rfl
      exact T (c.dr.uniq _ _ _ _ _ (c.pin n r).1 ho this H)
     .obtain⟨j,p2,ke,hj⟩:=sl2 e I g b S;cases qz:ops[j]? with
      |none=>rw[qz]at hj;cases hj
      |some oj=>
       rw[qz]at hj;have P4:=c.dr.uniq _ _ _ _ _ qz ho hj H;have hw:=c.dr.guard _ _ _ _ (c.pin n r).1 ke;exact hi (P4▸h.closed _ _ _ (c.pin n r).1 hL hw)
  .rw[F t (O q y ((DC bk).2 (.inl rfl)))];exact h.tmp t (λn r hL=>O n r ((DC bk).2 (.inr hL))) hf z
  .have T:j≠q.i:=λe=>by rw[e]at dp;omega
   have pz:Ld listed j:=by
    rcases(DC bk).1 hL with e|hL
    .exact absurd e T
    .exact hL
   rw[F d (λf7=>T (c.dr.uniq _ _ _ _ _ hj ho (Pj je) f7))];exact h.frd j o' s d hj dp je pz H
  .rw[Z k (λC=> ?_)]
   .exact h.fresh k dh (λn r hL=>R n r ((DC bk).2 (.inr hL)))
   .rcases d8 with e|⟨rfl,rfl,_⟩
    .rw[e]at C;cases C
    .exact λe=>R q y ((DC bk).2 (.inl rfl)) C e.symm
  .rcases(DC bk).1 hL with e|hL
   .subst e;rw[ho]at hj;cases hj;exact(DC bk).2 (.inr (hr l hw))
   .exact Cx
  .rcases(DC bk).1 hL with e|hL
   .subst e;omega
   .exact h.no2 j o' hj dp hL
theorem c9v(hC:GM E)(z:Fixed E nt ops st ρ0 ps es own0)(h:Inv1 E B0 X A w0 nt ops st a0 ρ0 ps es own0 K listed a w μ sd xs sr om)(bn:listed.size=ops.size){i:Nat}{o:Oper}(ho:ops[i]?=some o)(J:(kinds (kb E.c2 ops) ops).getD i 0=1)
 (hi:¬Ld listed i) (hr:∀j,FA o j=true->Ld listed j) {Kc:Act->World->Prop} {Q:Exit->Act->World->Prop}
 (hK:∀a' m c sd' xs' sr' om',Inv1 E B0 X A w0 nt ops st a0 ρ0 ps es own0 K (listed.setIfInBounds i true) a' m c sd' xs' sr' om'->Kc a' m):wpOp E.P ops Q i Kc a w:=by
 have bk:i<listed.size:=Fs;obtain⟨L,cx⟩:=z.dr.store i o ho J;have cf:=h.srA i o ho J hi;have G:=h.sk;have M:=h.srP;have Z:=h.srU;have w5:=h.srA;match sr,cf,G,M,Z,w5 with
 |(o',i')::r,cf,G,M,Z,w5=>
  rw[Kz]at M;have r9:(o,i)=(o',i'):=by
   rcases Jt.1 cf with e|hm
   .exact e
   .exfalso;have b6:=M.1 _ hm;obtain⟨u1,u2,u3⟩:=Z (o',i') E6;exact u3 (hr i' (cx i' o' u1 b6 u2))
  cases r9;simp only[b9z]at G;split at G;rotate_left
  .exact G.elim
  rename_i p F out B;rw[fO_eq,VA]at G;obtain⟨hp,I,G⟩:=G;replace hp:=hp.out;have cu:=f3e z h ho E4 E4 hi hr (b1r (ps:=ps) (ρ0:=ρ0) (i:=i));have next:∀(m:World) (c:Mu) (v:Value),Own B0 X A m c F->Fr B0 X w m->Keeps w m (held A μ) (held A c) μ c->(∀k,st.own.length<=k->(∀q∈ps,Ld listed q.i->q.al.isSome=true->q.own.length≠k)->c k=none)->(∀k x,E.an k=some x->c k=some x)->
   F.length=om.length->(out=none/\o.dst=none\/∃d s,o.dst=some d/\out=some ⟨d,none,s⟩/\JN nt o.dst=true/\D m (held A c) c s v)->
   Inv1 E B0 X A w0 nt ops st a0 ρ0 ps es own0 K (listed.setIfInBounds i true) (a.put o.dst v) m c (o::sd) (QN out xs) r F:=by
   intro m c v n1 n2 n3 n4 n5 n6 n7;have j7:∀e,e∈xs->e∈QN out xs:=λe u=>by
    unfold QN;split
    .exact K8 _ u
    .exact u
   have R:∀{e:Entry},e∈xs->o.dst≠some e.slot:=λ{e} u f=>by obtain⟨_,_,s,hs,C⟩:=h.xsE e u;obtain⟨j,hj,_,hL⟩:=h.sdL s hs;exact hi (z.dr.uniq _ _ _ _ _ ho hj f C▸hL)
   refine⟨n1,n6.trans h.len,h.fr.trans n2,Lk h.base n2.size,MZ n3 h.glo,by cases o.dst<;>exact h.dfr,by cases o.dst<;>simp[Act.put,h.size],G,.inr I,λs hs=> ?_,λe u=> ?_,λs hs d f=> ?_,λx hx=> ?_,λj o' hj dp N=> ?_,M.2,
    λH O hL=> ?_,λt ht hf C=> ?_,λj o' s d hj dp je hL f=> ?_,λk dh N=>n4 k dh (λq S hL=>N q S ((DC bk).2 (.inr hL))),h.env0.keep n3,λj o' l hj hL hw=> ?_,n5,λj o' hj dp hL=> ?_⟩
   .rcases Jt.1 hs with rfl|hs
    .exact⟨i,ho,J,(DC bk).2 (.inl rfl)⟩
    .obtain⟨j,hj,dp,hL⟩:=h.sdL s hs;exact Cw
   .have y:e∈xs->e.guard=none/\CU m (held A c) c (a.put o.dst v).tmps e/\∃s∈o::sd,s.dst=some e.slot:=λu=>by
     obtain⟨e1,e2,s,hs,C⟩:=h.xsE e u;exact⟨e1,(CU.keep n3 e2).put (R u) (λg b L=>by rw[e1]at L;cases L),s,K8 _ hs,C⟩
    rcases n7 with⟨rfl,_⟩|⟨d,s,f,rfl,hdo,hv⟩
    .exact y u
    .rcases Jt.1 u with rfl|u
     .refine⟨rfl,?_,o,Nd,f⟩;have b6:d<a.tmps.size:=by rw[h.size];simpa[JN,f]using hdo
      rw[f];unfold CU Act.put;simp only;rw[Mo b6,Jf rfl];exact hv
     .exact y u
   .rcases Jt.1 hs with rfl|hs
    .rcases n7 with⟨_,h0⟩|⟨d',s',f7,rfl,_,_⟩
     .rw[h0]at f;cases f
     .rw[f7]at f;cases f;exact⟨_,Nd,rfl⟩
    .obtain⟨e,u,rn⟩:=h.xsA s hs d f;exact⟨e,j7 e u,rn⟩
   .obtain⟨u1,u2,u3⟩:=Z x En;refine⟨u1,u2,λhL=> ?_⟩;rcases(DC bk).1 hL with e|hL
    .have:=M.1 x hx;simp only at this;omega
    .exact u3 hL
   .have:=w5 j o' hj dp (λhL=>N ((DC bk).2 (.inr hL)));rcases Jt.1 this with e|hm
    .cases e;exact absurd ((DC bk).2 (.inl rfl)) N
    .exact hm
   .rcases(DC bk).1 hL with e|hL
    .have:=(z.pin H O).2;rw[e]at this;omega
    .have ba:H.i≠i:=λe=>hi (e▸hL);have y:=h.ent H O hL;obtain⟨ρ',p',_,hs',_⟩:=z.par.step H O;obtain⟨U,sl2⟩:=TO hs';unfold PL at y⊢;split
     .exact Ji
     .rename_i e u;rw[u]at y U;simp only at y;refine(CU.keep n3 y).put (λf=> ?_) (λg b L f=> ?_)
      .have:H.o.dst=some e.slot:=by rw[<-U];rfl
       exact ba (z.dr.uniq _ _ _ _ _ (z.pin H O).1 ho this f)
      .obtain⟨j,p2,ke,hj⟩:=sl2 e u g b L;cases qz:ops[j]? with
       |none=>rw[qz]at hj;cases hj
       |some oj=>
        rw[qz]at hj;have P4:=z.dr.uniq _ _ _ _ _ qz ho hj f;have hw:=z.dr.guard _ _ _ _ (z.pin H O).1 ke;exact hi (P4▸h.closed _ _ _ (z.pin H O).1 hL hw)
   .rw[PU (C o Nd)];exact h.tmp t (λq S hL=>ht q S ((DC bk).2 (.inr hL))) hf (λs hs=>C s (K8 _ hs))
   .have ba:j≠i:=λe=>by rw[e]at dp;omega
    have pz:Ld listed j:=by
     rcases(DC bk).1 hL with e|hL
     .exact absurd e ba
     .exact hL
    rw[PU (λf7=>ba (z.dr.uniq _ _ _ _ _ hj ho (Pj je) f7))];exact h.frd j o' s d hj dp je pz f
   .rcases(DC bk).1 hL with e|hL
    .subst e;rw[ho]at hj;cases hj;exact(DC bk).2 (.inr (hr l hw))
    .exact Cx
   .rcases(DC bk).1 hL with e|hL
    .subst e;omega
    .exact h.no2 j o' hj dp hL
  unfold wpOp;rw[ho];simp only;rw[Jf (by simp[Region.wanted,L])];refine .inl ?_;unfold c70 at B;split at B
  .rename_i T px xx cy;simp only[Jn]at B;obtain⟨sp,qt,sx,ph,rr,B,f⟩:=B;split at f;rotate_left
   .cases f
   rename_i sa;simp only[Ir]at f;obtain⟨rfl,rfl,rfl⟩:=f;have V:=Qv (E:=E) (a:=a) (g:=none) (λn s N=>(h.glo n s N).2) cu (λq b e=>Eb);obtain⟨m,bp,W⟩:=b5m h.own (V _ _ qt) (V _ _ ph) B hp;have hx:(execOp a.eval o).run E.P w=.ok .skip m:=by simp[execOp,cy,bp]
   unfold Oper.wp;rw[hx];exact hK _ m μ _ _ _ _ (next m μ undef W.own W.fr W.keeps h.fresh h.anc (b71 B) (.inl ⟨rfl,sa⟩))
  .split at B;rotate_left
   .cases B
   rename_i p1 s1 own1 Y;split at B;rotate_left
   .cases B
   rename_i dv;simp only[K9]at dv;obtain⟨⟨c1,c2⟩,c3⟩:=dv;replace c1:=Nat.eq_of_beq_eq_true c1;replace c2:=Nat.eq_of_beq_eq_true c2;simp only[Ir]at B;obtain⟨rfl,rfl,rfl⟩:=B;have hS:SD E B0 X A w0 nt ⟨NO (NW ops o) (UJ ps i++ρ0),om⟩ a w μ:=⟨h.own,h.fr,h.base,h.glo,h.dfr,h.size,cu,λk J=>by simp only at J;refine h.fresh k E4 (λq S _ W e=> ?_);have:=z.par.top q S W;rw[<-h.len]at this;omega,h.anc⟩
   refine c27 hC hS (by rw[<-b8c];exact Y) hp (λv m c q1 q2 q3 q4 q5 q6=>hK _ m c _ _ _ _ (next m c v q1 q2 ⟨q3.size,q3.block,q3.less,λk x hx=>q3.own k x E6 hx⟩ (λk J _=>q4 k E4) q5 E4 ?_));cases f:o.dst with
   |none=>exact .inl ⟨rfl,rfl⟩
   |some d=>exact .inr ⟨d,s1,rfl,rfl,by rw[<-f];exact c3,q6⟩
theorem f46{d:Nat}{v:Value}(h:d<a.tmps.size):(a.put (some d) v).tmps.getD d undef=v:=by simp[Act.put,h]
theorem d7v{d:Nat}{v:Value}(h:d<a.tmps.size->a.tmps.getD d undef=v):a.put (some d) v=a:=by
 have:a.tmps.setIfInBounds d v=a.tmps:=by
  by_cases b:d<a.tmps.size
  .have e:=h b;have c:a.tmps[d]=v:=by
    rw[<-e];simp[Array.getD,b]
   rw[<-c];simp[Array.setIfInBounds,b]
  .simp[Array.setIfInBounds,b]
 unfold Act.put;simp only;rw[this]
theorem c59{P:Program}{o:Oper}{s d:Nat}(b:QI o=some (s,d)){c:Act->World->Prop}{Q:Exit->Act->World->Prop}:o.wp P a w c Q↔c (a.put (some d) (a.tmps.getD s undef)) w:=by
 obtain⟨e,_⟩:=c1a b;have f:=Pj b;have hx:(execOp a.eval o).run P w=.ok (.value (a.tmps.getD s undef)) w:=by simp[execOp,e,Act.eval]
 unfold Oper.wp;rw[hx,Oper.upon_value,f]
theorem d3y(c:Fixed E nt ops st ρ0 ps es own0)(h:Inv1 E B0 X A w0 nt ops st a0 ρ0 ps es own0 K listed a w μ sd xs sr om)(bn:listed.size=ops.size){i:Nat}{o:Oper}(ho:ops[i]?=some o)(I:(kinds (kb E.c2 ops) ops).getD i 0=3)
 (hi:¬Ld listed i) (hr:∀j,FA o j=true->Ld listed j) {S:Act->World->Prop} {Q:Exit->Act->World->Prop}
 (hK:∀T U J,Inv1 E B0 X A w0 nt ops st a0 ρ0 ps es own0 K (listed.setIfInBounds i true) T U J sd xs sr om->S T U):wpOp E.P ops Q i S a w:=by
 have bk:i<listed.size:=Fs;obtain⟨s,d,hf,L⟩:=c.dr.free i o ho I;have z:=Pj hf;have T8:d∈LZ (kb E.c2 ops) ops:=Rq.2 ⟨i,o,ho,I,z⟩;have r:∀{v:Value} t,t≠d->(a.put (some d) v).tmps.getD t undef=a.tmps.getD t undef:=λt M=>PU (λe=>M (Kh e).symm);have Z1:a.tmps.getD s undef=a0.tmps.getD s undef:=h.tmp s (λq f _=>(L q.i q.o (c.pin q f).1).1) (λhD=>by
  obtain⟨j,o',h1,_,h3⟩:=Rq.1 hD;exact(L j o' h1).1 h3) (λy hs'=>by
  obtain⟨j,hj,_,_⟩:=h.sdL y hs';exact(L j y hj).1)
 unfold wpOp;rw[ho];simp only;rw[Jf Ha];refine .inl ((c59 hf).2 (hK _ w μ ?_));refine⟨h.own,h.len,h.fr,h.base,h.glo,h.dfr,by simp[Act.put,h.size],h.sk,h.late,λx hx=> ?_,λe C=> ?_,h.xsA,λx hx=> ?_,λj o' hj dp N=> ?_,h.srP,
  λq f hL=> ?_,λt M V m=> ?_,λj o' y W hj dp F hL u=> ?_,λk dh N=>h.fresh k dh (λq f hL=>N q f ((DC bk).2 (.inr hL))),h.env0,λj o' l hj hL hw=> ?_,h.anc,λj o' hj dp hL=> ?_⟩
 .obtain⟨j,hj,dp,hL⟩:=h.sdL x hx;exact Cw
 .obtain⟨Y,e2,y,hs',m⟩:=h.xsE e C;obtain⟨j,hj,dp,_⟩:=h.sdL y hs';refine⟨Y,e2.put (λu=> ?_) (λg b G=>by rw[Y]at G;cases G),y,hs',m⟩;have:=c.dr.uniq _ _ _ _ _ ho hj (z.trans u) m;rw[this]at I;omega
 .obtain⟨u1,Z,u3⟩:=h.srU x hx;refine⟨u1,Z,λhL=> ?_⟩;rcases(DC bk).1 hL with e|hL
  .rw[e]at Z;omega
  .exact u3 hL
 .exact h.srA j o' hj dp (λhL=>N ((DC bk).2 (.inr hL)))
 .have P5:=(c.pin q f).2;have ba:q.i≠i:=λe=>by rw[e]at P5;omega
  have H:Ld listed q.i:=by
   rcases(DC bk).1 hL with e|hL
   .exact absurd e ba
   .exact hL
  have n:=h.ent q f H;obtain⟨ρ',p',_,hs',_⟩:=c.par.step q f;obtain⟨B,O⟩:=TO hs';unfold PL at n⊢;split
  .exact Ji
  .rename_i e C;rw[C]at n B;simp only at n;refine n.put (λu=> ?_) (λg b G u=> ?_)
   .have:q.o.dst=some e.slot:=by rw[<-B];rfl
    exact ba (c.dr.uniq _ _ _ _ _ (c.pin q f).1 ho this (z.trans u))
   .obtain⟨j,p2,ke,hj⟩:=O e C g b G;cases qz:ops[j]? with
    |none=>rw[qz]at hj;cases hj
    |some oj=>
     rw[qz]at hj;have P4:=c.dr.uniq _ _ _ _ _ qz ho hj (z.trans u);have hw:=c.dr.guard _ _ _ _ (c.pin q f).1 ke;exact hi (P4▸h.closed _ _ _ (c.pin q f).1 H hw)
 .rw[r t (λe=>V (e▸T8))];exact h.tmp t (λq f hL=>M q f ((DC bk).2 (.inr hL))) V m
 .by_cases e:j=i
  .subst e;rw[ho]at hj;cases hj;rw[hf]at F;cases F;rw[f46 (by rw[h.size];exact u)];exact Z1
  .have H:Ld listed j:=by
    rcases(DC bk).1 hL with R|hL
    .exact absurd R e
    .exact hL
   rw[r W (λR=>e (c.dr.uniq _ _ _ _ _ hj ho (Pj F) (by rw[z,R])))];exact h.frd j o' y W hj dp F H u
 .rcases(DC bk).1 hL with e|hL
  .subst e;rw[ho]at hj;cases hj;exact(DC bk).2 (.inr (hr l hw))
  .exact Cx
 .rcases(DC bk).1 hL with e|hL
  .subst e;omega
  .exact h.no2 j o' hj dp hL
theorem settle(d:Fixed E nt ops st ρ0 ps es own0)(h:Inv1 E B0 X A w0 nt ops st a0 ρ0 ps es own0 K listed a w μ sd xs sr om)(C:∀(i:Nat) (o:Oper),ops[i]?=some o->(kinds (kb E.c2 ops) ops).getD i 0≠2->(kinds (kb E.c2 ops) ops).getD i 0≠3->Ld listed i):
 SD E B0 X A w0 nt ⟨xs++(es++ρ0),om⟩ a w μ/\d77 E (kb E.c2 ops) nt ops K ⟨xs++(es++ρ0),om⟩:=by
 have H:∀q∈ps,Ld listed q.i:=λq c=>C q.i q.o (d.pin q c).1 (by rw[(d.pin q c).2];omega) (by rw[(d.pin q c).2];omega);refine⟨⟨h.own,h.fr,h.base,h.glo,h.dfr,h.size,λt e f=> ?_,λk v=> ?_,h.anc⟩,?_⟩
 .have F:=ML f;simp only at f;rw[b4r]at f;split at f
  .rename_i x hx;cases f;exact(h.xsE _ (NY hx)).2.1
  rename_i I;rw[b4r]at f;split at f
  .rename_i x hx;cases f;obtain⟨q,c,J⟩:=(d.es _).1 (NY hx);have:=h.ent q c (H q c);rw[J]at this;exact this
  .rename_i L;have l:=h.env0 t e f;have M:∀q∈ps,q.o.dst≠some t:=by
    intro q c m;obtain⟨ρq,p,_,hs,_⟩:=d.par.step q c;have G:=(TO hs).1;rw[m,Jk]at G;obtain⟨y,z,hs'⟩:=G;exact b2r.1 L y ((d.es _).2 ⟨q,c,z⟩) hs'
   have u:=h.tmp t (λq c _=>M q c) (by rw[<-F];exact d.fno e (NY f)) (λs hs m=>by obtain⟨y,N,hs'⟩:=h.xsA s hs t m;exact b2r.1 I y N hs')
   unfold CU at l⊢;rw[F]at l⊢;split
   .rename_i n;rw[n]at l;simp only at l;rw[u];exact l
   .rename_i g b n;rw[n]at l;simp only at l;have O:=h.tmp g (λq c _ m=>d.gno e (NY f) g b n q.i q.o (d.pin q c).1 m) (λP=>by
     obtain⟨j,Q,R,h2,S⟩:=Rq.1 P;exact d.gno e (NY f) g b n j Q R S) (λs hs m=>by
     obtain⟨j,T,_,_⟩:=h.sdL s hs;exact d.gno e (NY f) g b n j s T m)
    rw[u,O];exact l
 .simp only at v;rw[h.len]at v;refine h.fresh k (Lk d.top v) (λq c _ U e=> ?_);have:=d.par.top q c U;omega
 .have B:sr=[]:=by
   match sr,h.srU with
   | [],_=>rfl
   |x::r,V=>
    obtain⟨W,u2,Y⟩:=V x E6;exact absurd (C _ _ W E4 E4) Y
  have:=h.sk;rw[B]at this;exact this
end
theorem b0k(ks:List Nat)(o:Oper):Rh ks o<=2:=by
 unfold Rh;split
 .exact C6
 .split<;>decide
theorem c1e(ks:List Nat)(o:Oper):b2j ks o<=2:=by
 unfold b2j;split
 .exact C6
 .split
  .exact C6
  .exact b0k _ _
theorem c1u(ks:List Nat)(o:Oper):b2t ks o<=2:=by
 unfold b2t;split
 .exact C6
 .split
  .decide
  .split
   .split<;>decide
   .exact b0k _ _
theorem c2p(ops:Array Oper)(ks:List Nat)(o:Oper):b33 ops ks o<=2:=by
 unfold b33;split
 .exact C6
 .split
  .decide
  .exact b0k _ _
theorem c2y(b:Nat)(ops:Array Oper)(i:Nat):(d5h b ops).getD i 0<=2:=by
 have:∀(l:List Oper) (a:List Nat),(∀x∈a,x<=2)->∀x∈l.foldl (λa o=>a++[match b with|0=>Rh a o|1=>b2j a o|2=>b2t a o|_=>b33 ops a o]) a,x<=2:=by
  intro l;induction l with
  |nil=>intro a h;exact h
  |cons o l c=>
   intro a h;refine c _ (λx hx=> ?_);rcases Ka.1 hx with hx|hx
   .exact h x hx
   .rw[K4.1 hx];split
    .exact b0k _ _
    .exact c1e _ _
    .exact c1u _ _
    .exact c2p _ _ _
 have h:=this ops.toList [] E6;rw[Jd];cases e:(d5h b ops)[i]? with
 |none=>simp
 |some x=>exact h x (Jj e)
theorem f18(b:Nat)(ops:Array Oper)(i:Nat):(kinds b ops).getD i 0<=3:=by
 unfold kinds f2x;split
 .have:=c2y b ops i;omega
 .simp only;rw[Jd,K1];cases ops.toList.zipIdx[i]? with
  |none=>simp
  |some x=>
   simp only[J6];split
   .exact C6
   .have:=c2y b ops x.2;omega
theorem b7w{ops:Array Oper}{listed:Array Bool}(bn:listed.size=ops.size)(d:∀(i:Nat) (o:Oper) (j:Nat),ops[i]?=some o->FA o j=true->j<i){i:Nat}(h:i∈Region.ready .any ops listed):∃o,ops[i]?=some o/\¬Ld listed i/\∀j,FA o j=true->Ld listed j:=by
 unfold Region.ready at h;simp only[Kv,Ki,Jb]at h;obtain⟨h1,f,a⟩:=h;obtain⟨o,b⟩:∃o,ops[i]?=some o:=⟨ops[i],Eu⟩
 refine⟨o,b,by unfold Ld;rw[f];simp,λj c=> ?_⟩;have b6:=d i o j b c;rw[b]at a;simp only[J6]at a;rw[Array.all_eq_true_iff_forall_mem]at a;simp only[FA,Jz,J8]at c;obtain⟨e,g,k,rfl⟩:=c;have:=a e (by simpa using g);rw[k]at this;simp only[Bool.not_true,Nj]at this;unfold Ld;rw[<-this];have l:e.on<listed.size:=E4;simp[Array.getD,l]
theorem d5s{ops:Array Oper}{listed:Array Bool}(d:∀(i:Nat) (o:Oper) (j:Nat),ops[i]?=some o->FA o j=true->j<i)(bn:listed.size=ops.size)(h:Region.ready .any ops listed=[]):∀(i:Nat) (o:Oper),ops[i]?=some o->Ld listed i:=by
 intro i;induction i using Nat.strongRecOn with
 |_ i f=>
  intro o a;have g:i<ops.size:=(Kp.1 a).1;by_cases b:Ld listed i
  .exact b
  exfalso;have:i∈Region.ready .any ops listed:=by
   unfold Region.ready;simp only[Kv,Ki,Jb];refine⟨g,by unfold Ld at b;simpa using b,?_⟩;rw[a];simp only[J6];rw[Array.all_eq_true_iff_forall_mem];intro e k;cases hb:Region.binds .any e with
   |false=>rfl
   |true=>
    have l:FA o e.on=true:=by simp only[FA,Jz,J8];exact⟨e,by simpa using k,hb,rfl⟩
    have m:=d i o _ a l;obtain⟨c,n⟩:∃c,ops[e.on]?=some c:=⟨ops[e.on]'E4,by simp[show e.on<ops.size from E4]⟩
    have:=f _ m c n;unfold Ld at this;have q:e.on<listed.size:=E4;simp[Array.getD,q]at this⊢;exact this
  rw[h]at this;simp at this
section
variable{E:Env}{B0:Nat}{X A:Nat->Prop}{w0:World}{nt:Nat}{ops:Array Oper}{st:St}{a0:Act}{ρ0:List Entry}{ps:List PI}{es:List Entry}{own0:List Blk}{K:St->Prop}
theorem b6c{p:Nat->Bool}{t:Nat}{e:Entry}:∀{ρ:List Entry},CD t (ρ.filter λe=>p e.slot)=some e->CD t ρ=some e
 | [],h=>by simp[CD]at h
 |x::ρ,h=>by
  simp only[List.filter_cons]at h;split at h
  .simp only[CD]at h⊢;split
   .rename_i hx;rw[Jf hx]at h;exact h
   .rename_i hx;rw[Jg hx]at h;exact b6c h
  .rename_i a;have c:=b6c h;simp only[CD];split
   .rename_i hx;exfalso;have:∀{l:List Entry},CD t (l.filter λe=>p e.slot)=some e->p t=true:=by
     intro l b;have hs:=ML b;have:=(Kv.1 (NY b)).2;rw[hs]at this;exact this
    rw[hx]at a;exact a (this h)
   .exact c
theorem c16{w:World}{H:Nat->Prop}{μ:Mu}{tmps:Array Value}{a:List Nat}{ρ:List Entry}(h:EN w H μ tmps ρ):EN w H μ tmps (ρ.map (Oj a)):=by
 intro t e b;rw[UI (b13 a),Jk]at b;obtain⟨d,f,rfl⟩:=b;have c:=h t d f;unfold Oj;split
 .split
  .exact .any
  .exact c
 .exact c
theorem d71{w:World}{H:Nat->Prop}{μ:Mu}{tmps:Array Value}{a:List Nat}{ρ:List Entry}(h:EN w H μ tmps ρ):EN w H μ tmps (ρ.filter λe=> !a.contains e.slot):=
 λt e b=>h t e (b6c (p:=λt=> !a.contains t) b)
theorem b3r{c:List Nat}{e:Entry}{g:Nat}{b:Bool}(a:(Oj c e).guard=some (g,b)):g∉c:=by
 unfold Oj at a;split at a
 .rename_i g' b' d;split at a
  .cases a
  .rename_i f;rw[d]at a;cases a;exact λh=>f (by simpa using h)
 .rename_i i;rw[i]at a;cases a
def NoE(a:List Nat)(ρ:List Entry):Prop:=∀e∈ρ,e.slot∉a/\∀g b,e.guard=some (g,b)->g∉a
theorem d75{a:List Nat}{ρ:List Entry}:NoE a (Qr a ρ):=by intro e c;obtain⟨e0,d,rfl⟩:=Jx.1 c;refine⟨?_,λg b f=>b3r f⟩;rw[b13];simpa using(Kv.1 d).2
theorem g1a{w:World}{H:Nat->Prop}{μ:Mu}{tmps:Array Value}{a:List Nat}{ρ:List Entry}(h:EN w H μ tmps ρ):EN w H μ tmps (Qr a ρ):=c16 (d71 h)
theorem c90(ρ:List Entry):Qr [] ρ=ρ:=by
 have:∀ρ:List Entry,ρ.map (Oj [])=ρ:=by
  intro ρ;induction ρ with
  |nil=>rfl
  |cons e ρ a=>
   have:Oj [] e=e:=by
    unfold Oj;split
    .simp
    .rfl
   rw[L3,this,a]
 unfold Qr;simp only[List.contains_nil,Bool.not_false];rw[List.filter_eq_self.2 (λ_ _=>rfl),this]
theorem SD.drp{a:Act}{w:World}{μ:Mu}{c:List Nat}{b:St}(h:SD E B0 X A w0 nt b a w μ):SD E B0 X A w0 nt ⟨Qr c b.ρ,b.own⟩ a w μ:=
 ⟨h.own,h.fr,h.base,h.glo,h.dfr,h.size,g1a h.env,h.fresh,h.anc⟩
theorem wp_put{P:Program}{o:Oper}{a:Act}{w:World}{K:Act->World->Prop}{Q:Exit->Act->World->Prop}(h:o.wp P a w K Q):o.wp P a w (λd c=>K d c/\∃v,d.tmps=(a.put o.dst v).tmps) Q:=by
 unfold Oper.wp at*;generalize (execOp a.eval o).run P w=r at*;have zt:∀v:Value,∃f,(a.put o.dst v).tmps=(a.put o.dst f).tmps:=λv=>⟨v,rfl⟩
 cases r with
 |ok n c=>
  cases n<;>simp only[Oper.upon]at h⊢ <;>
   first
    |exact⟨h,_,rfl⟩
    |exact⟨h,undef,by cases o.dst<;>rfl⟩
    |exact Calls.mono h (λe w'' b=>by cases e<;>first|exact⟨b,_,rfl⟩|exact b)
    |exact Rows.mono h (λ_ _ b=>⟨b,_,rfl⟩)
 |halt x c=>cases x<;>simp only[Oper.upon]at h⊢ <;>exact h
theorem f33(q:EnvOK E)(t:GM E){a:Act}{w:World}{j:St->Prop}:∀(l:List Oper) {b:St} {c:Mu} (r:List Oper),SD E B0 X A w0 nt b a w c->(∀o∈l,∃s d,QI o=some (s,d)/\(d<nt->a.tmps.getD d undef=a.tmps.getD s undef))->Oh E nt ops j (l++r) b->
 ∃f i,SD E B0 X A w0 nt f a w i/\Oh E nt ops j r f:=by
 intro l;induction l with
 |nil=>intro b c r h _ e;exact⟨b,c,h,e⟩
 |cons o l u=>
  intro b c r h k e;simp only[Mm,b2a]at e;obtain⟨b,c,h,e⟩:=b1p h e;unfold SI at e;split at e;rotate_left
  .exact e.elim
  rename_i p f hs;rw[St.forceO_eq]at e;obtain⟨s,d,hf,v⟩:=k o E6;have:=b0u (K:=λm n=>∃g,SD E B0 X A w0 nt f m n g) (Q:=λ_ _ _=>False) q t h hs e.1.out (λm n g h=>⟨g,h⟩);rw[Jf Ha,c59 hf,d7v (λx=>v (by rw[<-h.size];exact x))]at this;obtain⟨i,y⟩:=this;exact u r y (λz B=>k z (by simp[B])) e.2
structure Inv2 (E:Env) (B0:Nat) (X A:Nat->Prop) (w0:World) (nt:Nat) (ops:Array Oper) (K:St->Prop) (listed:Array Bool) (a:Act) (w:World) (μ:Mu) (rest:List ((Oper×Nat)×List (Oper×Nat))) (st':St):Prop where
 sd:SD E B0 X A w0 nt st' a w μ
 sk:RP E (kb E.c2 ops) nt ops (LZ (kb E.c2 ops) ops) K rest st'
 no:NoE (LZ (kb E.c2 ops) ops) st'.ρ
 low:∀(i:Nat) (o:Oper),ops[i]?=some o->(kinds (kb E.c2 ops) ops).getD i 0≠2->(kinds (kb E.c2 ops) ops).getD i 0≠3->Ld listed i
 mem:∀g∈rest,ops[g.1.2]?=some g.1.1/\(kinds (kb E.c2 ops) ops).getD g.1.2 0=2/\¬Ld listed g.1.2
 grp:∀g∈rest,∀f∈g.2,ops[f.2]?=some f.1/\(kinds (kb E.c2 ops) ops).getD f.2 0=3/\Reach ops g.1.2 f.2
 all:∀(i:Nat) (o:Oper),ops[i]?=some o->(kinds (kb E.c2 ops) ops).getD i 0=2->¬Ld listed i->∃fs,((o,i),fs)∈rest
 pair:rest.Pairwise (λx y=>x.1.2<y.1.2)
 cl:∀(i:Nat) (o:Oper) (j:Nat),ops[i]?=some o->Ld listed i->FA o j=true->Ld listed j
 fr:∀(i:Nat) (o:Oper) (s d:Nat),ops[i]?=some o->(kinds (kb E.c2 ops) ops).getD i 0=3->QI o=some (s,d)->Ld listed i->d<nt->a.tmps.getD d undef=a.tmps.getD s undef
theorem d4p(hE:EnvOK E)(hC:GM E)(S:Draws (kb E.c2 ops) ops){listed:Array Bool}{a:Act}{w:World}{μ:Mu}{z:List ((Oper×Nat)×List (Oper×Nat))}{W:St}(h:Inv2 E B0 X A w0 nt ops K listed a w μ z W)(bn:listed.size=ops.size){i:Nat}{o:Oper}(ho:ops[i]?=some o)(dz:(kinds (kb E.c2 ops) ops).getD i 0=2)
 (hi:¬Ld listed i) (Y:∀j,FA o j=true->Ld listed j) {Z:Act->World->Prop} {Q:Exit->Act->World->Prop}
 (hK:∀n u b B J,Inv2 E B0 X A w0 nt ops K (listed.setIfInBounds i true) n u b B J->Z n u):wpOp E.P ops Q i Z a w:=by
 have C:i<listed.size:=Fs;obtain⟨fs,cf⟩:=h.all i o ho dz hi;have c:=h.sk;have T:=h.mem;have F:=h.pair;have ha:=h.all;have U:=h.grp;match z,cf,c,T,F,ha,U with
 |((q,V),y)::r,cf,c,T,F,ha,U=>
  rw[Kz]at F;have r9:((o,i),fs)=((q,V),y):=by
   rcases Jt.1 cf with e|L
   .exact e
   .exfalso;have b6:V<i:=F.1 _ L;obtain⟨G,H,M⟩:=T ((q,V),y) E6;simp only at H;exact M (b0c h.cl (S.last i o V q ho dz G E4 E4 E4) ho Y)
  cases r9;simp only[RP]at c;obtain⟨st2,μ2,h2,c⟩:=f33 hE hC (fs.map (·.1)) [o] h.sd (λo1 ve=>by obtain⟨f,hf,rfl⟩:=Jx.1 ve;obtain⟨G,H,M⟩:=U ((o,i),fs) E6 f hf;obtain⟨s,d,f1,_⟩:=S.free _ _ G H;exact⟨s,d,f1,h.fr _ _ _ _ G H f1 (b0c h.cl M ho Y)⟩) c
  simp only[b2a]at c;obtain⟨st2,μ2,h2,c⟩:=b1p h2 c;unfold SI at c;split at c;rotate_left
  .exact c.elim
  rename_i p N hs;simp only[St.force_eq,St.forceO_eq]at c;have l:=b0u (K:=λn u=>∃b,SD E B0 X A w0 nt N n u b) (Q:=Q) hE hC h2 hs c.1.out (λn u b hs'=>⟨b,hs'⟩);have O:∀n u,((∃b,SD E B0 X A w0 nt N n u b)/\∃v,n.tmps=(a.put o.dst v).tmps)->Z n u:=by
   rintro n u ⟨⟨b,hs'⟩,v,hv⟩;refine hK n u b r _ ⟨hs'.drp,c.2,d75,λj q t hk tf=>(DC C).2 (.inr (h.low j q t hk tf)),λx hx=> ?_,λg w6=>U g (by simp[w6]),λj q t R hn=> ?_,F.2,λj q k t m I=> ?_,λj q s d t R je m b6=> ?_⟩
   .obtain⟨G,H,M⟩:=T x En;refine⟨G,H,λm=> ?_⟩;rcases(DC C).1 m with e|m
    .have:=F.1 x hx;simp only at this;omega
    .exact M m
   .obtain⟨y,L⟩:=ha j q t R (λm=>hn ((DC C).2 (.inr m)));rcases Jt.1 L with e|L
    .cases e;exact absurd ((DC C).2 (.inl rfl)) hn
    .exact⟨y,L⟩
   .refine(DC C).2 (.inr ?_);rcases(DC C).1 m with e|m
    .subst e;rw[ho]at t;cases t;exact Y _ I
    .exact h.cl _ _ _ t m I
   .have ba:j≠i:=λe=>by rw[e]at R;omega
    have pz:Ld listed j:=by
     rcases(DC C).1 m with e|m
     .exact absurd e ba
     .exact m
    obtain⟨s',d',f1,f2⟩:=S.free j q t R;rw[je]at f1;cases f1;rw[hv,PU (λe=>ba (S.uniq _ _ _ _ _ t ho (Pj je) e)),PU (f2 i o ho).1];exact h.fr j q s d t R je pz b6
  unfold wpOp;rw[ho];simp only;split
  .rename_i I;rw[Jf I]at l;exact .inl (Oper.wp_mono O (wp_put l))
  .rename_i I;rw[Jg I]at l;exact O _ _ ⟨l,_,rfl⟩
theorem d6g(B:Draws (kb E.c2 ops) ops){listed:Array Bool}{a:Act}{w:World}{μ:Mu}{l:List ((Oper×Nat)×List (Oper×Nat))}{r:St}(h:Inv2 E B0 X A w0 nt ops K listed a w μ l r)(bn:listed.size=ops.size){i:Nat}{o:Oper}(ho:ops[i]?=some o)(y:(kinds (kb E.c2 ops) ops).getD i 0=3)
 (U:∀j,FA o j=true->Ld listed j) {I:Act->World->Prop} {Q:Exit->Act->World->Prop}
 (V:∀J L C m u,Inv2 E B0 X A w0 nt ops K (listed.setIfInBounds i true) J L C m u->I J L):wpOp E.P ops Q i I a w:=by
 have q:i<listed.size:=Fs;obtain⟨s,d,hf,nw⟩:=B.free i o ho y;have F:=Pj hf;have M:d∈LZ (kb E.c2 ops) ops:=Rq.2 ⟨i,o,ho,y,F⟩;unfold wpOp;rw[ho];simp only;rw[Jf Ha];refine .inl ((c59 hf).2 (V _ w μ l r ?_));have hS:=h.sd;refine⟨⟨hS.own,hS.fr,hS.base,hS.glo,hS.dfr,by simp[Act.put,hS.size],λt e N=> ?_,hS.fresh,hS.anc⟩,h.sk,h.no,λj n c y W=>(DC q).2 (.inr (h.low j n c y W)),λx hx=> ?_,h.grp,λj n c z Y=>h.all j n c z (λf=>Y ((DC q).2 (.inr f))),h.pair,λj n k c f O=> ?_,λj n R Z c z v f S=> ?_⟩
 .obtain⟨n1,n2⟩:=h.no e (NY N);exact(hS.env t e N).put (λG=>n1 (by rw[<-Kh G];exact M)) (λg b hg G=>n2 g b hg (by rw[<-Kh G];exact M))
 .obtain⟨u1,T,u3⟩:=h.mem x hx;refine⟨u1,T,λf=> ?_⟩;rcases(DC q).1 f with e|f
  .rw[e]at T;omega
  .exact u3 f
 .refine(DC q).2 (.inr ?_);rcases(DC q).1 f with e|f
  .subst e;rw[ho]at c;cases c;exact U _ O
  .exact h.cl _ _ _ c f O
 .obtain⟨s1,d1,f1,f2⟩:=B.free j n c z;rw[v]at f1;cases f1;have P3:R≠d:=λe=>(f2 i o ho).1 (by rw[F,e]);rw[PU (a:=a) (λe=>P3 (Kh e).symm)];by_cases e:j=i
  .subst e;rw[ho]at c;cases c;rw[hf]at v;cases v;rw[f46 (by rw[hS.size];exact S)]
  .have pz:Ld listed j:=by
    rcases(DC q).1 f with H|f
    .exact absurd H e
    .exact f
   rw[PU (a:=a) (λH=>e (B.uniq _ _ _ _ _ c ho (Pj v) (by rw[F];exact H)))];exact h.fr j n R Z c z v pz S
def g07(E:Env)(B0:Nat)(X A:Nat->Prop)(w0:World)(nt:Nat)(ops:Array Oper)(st:St)(a0:Act)(ρ0:List Entry)(ps:List PI)(es:List Entry)(own0:List Blk)(K:St->Prop)(listed:Array Bool)(a:Act)(w:World):Prop:=
 (∃c e f g h,Inv1 E B0 X A w0 nt ops st a0 ρ0 ps es own0 K listed a w c e f g h)\/∃c b d,Inv2 E B0 X A w0 nt ops K listed a w c b d
theorem f29{ops:Array Oper}(c:IX (kb E.c2 ops) ops 3=[]):∀(l:List ((Oper×Nat)×List (Oper×Nat))) (a:St),(∀g∈l,g.2=[])->Oh E nt ops K (l.map (·.1.1)) a->RP E (kb E.c2 ops) nt ops [] K l a:=by
 intro l;induction l with
 |nil=>intro a _ h;simp only[RP,c];exact h
 |cons g l d=>
  intro a b h;simp only[RP,b g E6,List.map_nil,Nh];simp only[L3,b2a]at h⊢;refine d1r (λst=>d88 (λst e=> ?_) st) h;simp only[St.force_eq,c90];exact d _ (λf i=>b f (by simp[i])) e
theorem d04(j:Draws (kb E.c2 ops) ops){a:St}(h:d77 E (kb E.c2 ops) nt ops K a):RP E (kb E.c2 ops) nt ops (LZ (kb E.c2 ops) ops) K (SP (kb E.c2 ops) ops) ⟨Qr (LZ (kb E.c2 ops) ops) a.ρ,a.own⟩:=by
 unfold d77 at h;split at h
 .rename_i b;have c:IX (kb E.c2 ops) ops 3=[]:=by
   refine List.eq_nil_iff_forall_not_mem.2 (λx hx=> ?_);obtain⟨e,f⟩:=Ol.1 (show (x.1,x.2)∈IX (kb E.c2 ops) ops 3 from hx);obtain⟨s,d,f1,_⟩:=j.free _ _ e f;have:d∈LZ (kb E.c2 ops) ops:=Rq.2 ⟨x.2,x.1,e,f,Pj f1⟩;rw[b]at this;cases this
  rw[b,c90];refine f29 c _ _ (λg i=> ?_) ?_
  .unfold SP at i;obtain⟨x,_,rfl⟩:=Jx.1 i;simp[c]
  .unfold SP;rw[Lh];exact h
 .rename_i d ds b;rw[St.force_eq]at h;rw[b];exact h
theorem f2y(b:Fixed E nt ops st ρ0 ps es own0){listed:Array Bool}{a:Act}{w:World}{μ:Mu}{sd:List Oper}{xs:List Entry}{B:List (Oper×Nat)}{p:List Blk}(h:Inv1 E B0 X A w0 nt ops st a0 ρ0 ps es own0 K listed a w μ sd xs B p)(r:∀(i:Nat) (o:Oper),ops[i]?=some o->(kinds (kb E.c2 ops) ops).getD i 0≠2->(kinds (kb E.c2 ops) ops).getD i 0≠3->Ld listed i):
 Inv2 E B0 X A w0 nt ops K listed a w μ (SP (kb E.c2 ops) ops) ⟨Qr (LZ (kb E.c2 ops) ops) (xs++(es++ρ0)),p⟩:=by
 obtain⟨C,F⟩:=settle b h r;refine⟨C.drp,d04 b.dr F,d75,r,λx hx=> ?_,λx hx f G=> ?_,λi o c e hn=> ?_,?_,h.closed,λi o s d c e t H I=> ?_⟩
 .unfold SP at hx;obtain⟨y,k,rfl⟩:=Jx.1 hx;obtain⟨g,l⟩:=Ol.1 (show (y.1,y.2)∈IX (kb E.c2 ops) ops 2 from k);exact⟨g,l,h.no2 _ _ g l⟩
 .unfold SP at hx;obtain⟨y,k,rfl⟩:=Jx.1 hx;obtain⟨g,l⟩:=Ol.1 (show (y.1,y.2)∈IX (kb E.c2 ops) ops 2 from k);obtain⟨m,u⟩:=Kv.1 G;obtain⟨v,z⟩:=Ol.1 (show (f.1,f.2)∈IX (kb E.c2 ops) ops 3 from m);refine⟨v,z,?_⟩;obtain⟨s,d,f1,f2⟩:=b.dr.free _ _ v z;rw[Pj f1]at u;exact((f2 _ _ g).2 (by simpa using u)).2
 .exact⟨_,Jx.2 ⟨(o,i),Ol.2 ⟨c,e⟩,rfl⟩⟩
 .unfold SP;rw[Kw];exact b1z _ _ _
 .obtain⟨n,d',f1,f2⟩:=b.dr.free _ _ c e;rw[t]at f1;cases f1;rw[h.frd i o s d c e t H I];exact(h.tmp s (λq J _=>(f2 q.i q.o (b.pin q J).1).1) (λL=>by
   obtain⟨j,M,g1,_,N⟩:=Rq.1 L;exact(f2 j M g1).1 N) (λn hs'=>by
   obtain⟨j,O,_,_⟩:=h.sdL n hs';exact(f2 j n O).1)).symm
theorem walk(N:EnvOK E)(H:GM E)(n:Fixed E nt ops st ρ0 ps es own0){Q:Exit->Act->World->Prop}(hQ:∀g k l c,SD E B0 X A w0 nt g k l c->K g->Q .normal k l):∀(fuel:Nat) (listed:Array Bool) (U:List Nat) (a:Act) (w:World),
 listed.size=ops.size->(∀(i:Nat) (o:Oper),ops[i]?=some o->¬Ld listed i->i∈U)->U.length<=fuel->g07 E B0 X A w0 nt ops st a0 ρ0 ps es own0 K listed a w->wpAny E.P .any ops Q fuel listed a w:=by
 have C:∀(listed:Array Bool) (a:Act) (w:World),g07 E B0 X A w0 nt ops st a0 ρ0 ps es own0 K listed a w->(∀(i:Nat) (o:Oper),ops[i]?=some o->Ld listed i)->Q .normal a w:=by
  intro listed a w h z;have two:∀{t b g},Inv2 E B0 X A w0 nt ops K listed a w t b g->Q .normal a w:=by
   intro t b g h;have:b=[]:=by
    match b,h.mem with
    | [],_=>rfl
    |x::r,hm=>obtain⟨F,_,u3⟩:=hm x E6;exact absurd (z _ _ F) u3
   have I:=h.sk;rw[this]at I;simp only[RP]at I;obtain⟨st2,μ2,u,dz⟩:=f33 N H ((IX (kb E.c2 ops) ops 3).map (·.1)) [] h.sd (λo ho=>by obtain⟨f,hf,rfl⟩:=Jx.1 ho;obtain⟨F,u2⟩:=Ol.1 (show (f.1,f.2)∈IX (kb E.c2 ops) ops 3 from hf);obtain⟨s,d,f1,_⟩:=n.dr.free _ _ F u2;exact⟨s,d,f1,h.fr _ _ _ _ F u2 f1 (z _ _ F)⟩) (by rw[List.append_nil];exact I)
   exact hQ _ _ _ _ u dz
  rcases h with⟨t,O,R,S,T,h⟩|⟨t,b,g,h⟩
  .exact two (f2y n h (λi o ho _ _=>z i o ho))
  .exact two h
 intro fuel;induction fuel with
 |zero=>
  intro listed U a w bn J hl h;have z:∀(i:Nat) (o:Oper),ops[i]?=some o->Ld listed i:=by
   intro i o ho;by_cases L:Ld listed i
   .exact L
   .have:=J i o ho L;rw[M5.1 (by omega:U.length=0)]at this;simp at this
  refine⟨?_,C listed a w h z⟩;refine List.eq_nil_iff_forall_not_mem.2 (λi V=> ?_);obtain⟨o,ho,y,_⟩:=b7w bn n.dr.lt V;exact y (z i o ho)
 |succ fuel ih=>
  intro listed U a w bn J hl h;refine⟨λW=>C listed a w h (d5s n.dr.lt bn W),λi V=> ?_⟩;obtain⟨o,ho,y,B⟩:=b7w bn n.dr.lt V;have Y:=J i o ho y;have bk:i<listed.size:=Fs;have next:∀k l,g07 E B0 X A w0 nt ops st a0 ρ0 ps es own0 K (listed.setIfInBounds i true) k l->wpAny E.P .any ops Q fuel (listed.setIfInBounds i true) k l:=by
   intro k l hs;refine ih _ (U.erase i) k l (by simpa using bn) (λj Z hj Z7=> ?_) ?_ hs
   .have ba:j≠i:=λe=>Z7 ((DC bk).2 (.inl e));exact(List.mem_erase_of_ne ba).2 (J j Z hj (λL=>Z7 ((DC bk).2 (.inr L))))
   .rw[List.length_erase_of_mem Y];omega
  have two:∀{t b g},Inv2 E B0 X A w0 nt ops K listed a w t b g->wpOp E.P ops Q i (wpAny E.P .any ops Q fuel (listed.setIfInBounds i true)) a w:=by
   intro t b g h;by_cases M:(kinds (kb E.c2 ops) ops).getD i 0=3
   .exact d6g n.dr h bn ho M B (λk l c m q v=>next k l (.inr ⟨c,m,q,v⟩))
   have u:(kinds (kb E.c2 ops) ops).getD i 0=2:=by
    by_cases u:(kinds (kb E.c2 ops) ops).getD i 0=2
    .exact u
    .exact absurd (h.low i o ho u M) y
   exact d4p N H n.dr h bn ho u y B (λk l c m q v=>next k l (.inr ⟨c,m,q,v⟩))
  rcases h with⟨t,O,R,S,T,h⟩|⟨t,b,g,h⟩
  .have I:=f18 (kb E.c2 ops) ops i;by_cases W:(kinds (kb E.c2 ops) ops).getD i 0=0
   .exact d7e N H n h bn ho W y B (λk l c v=>next k l (.inl ⟨c,O,R,S,T,v⟩))
   by_cases h1:(kinds (kb E.c2 ops) ops).getD i 0=1
   .exact c9v H n h bn ho h1 y B (λk l c sd' xs' sr' om' v=>next k l (.inl ⟨c,sd',xs',sr',om',v⟩))
   by_cases M:(kinds (kb E.c2 ops) ops).getD i 0=3
   .exact d3y n h bn ho M y B (λk l c v=>next k l (.inl ⟨c,O,R,S,T,v⟩))
   have u:(kinds (kb E.c2 ops) ops).getD i 0=2:=E4;refine two (f2y n h (λj Z hj dp G=>b0c h.closed (n.dr.last i o j Z ho u hj (λe=>dp (e▸u)) (λhc=>dp hc.1) G) ho B))
  .exact two h
theorem c9z(L:EnvOK E)(M:GM E)(N:E.P.follows .mixedOrders=true){id:Nat}(O:Th (kb E.c2 ops) ops=true){a:Act}{w:World}{μ:Mu}(h:SD E B0 X A w0 nt st a w μ)(z:d7r E nt ops K st){R:Exit->Act->World->Prop}
 (Q:∀n F G B,SD E B0 X A w0 nt n F G B->K n->R .normal F G):(Code.region id ops true).wp E.P R a w:=by
 have S:=d8k O;refine wp_region_any N ?_;change wpAny E.P .any ops R ops.size (Array.replicate ops.size false) a w.drew;simp only[d7r,d4s,f5g]at z;generalize f:(st.ρ.filter λe=> !(LZ (kb E.c2 ops) ops).contains e.slot).map (Oj (ops.toList.filterMap (·.dst)))=ρ0 at z;obtain⟨ps,es,own0,H,T,m,U,V,_,r,u⟩:=g18 (base:=st.own) (IX (kb E.c2 ops) ops 0) [] [] st.own z ⟨E6,E6,E6,E6,λ_ _ h=>h,E6⟩ E6 E6 E6 (b1z _ _ _) (Jm _) E6;have I:∀q∈ps,ops[q.i]?=some q.o/\(kinds (kb E.c2 ops) ops).getD q.i 0=0:=by
  intro q C;rcases U q C with h|h
  .simp at h
  .exact Ol.1 h
 have W:Fixed E nt ops st ρ0 ps es own0:=by
  refine⟨S,H,I,λi o c m=>V (o,i) (Ol.2 ⟨c,m⟩),T,λe l=> ?_,λe l g b Y i o c Z=> ?_,r,u⟩
  .rw[<-f,Jx]at l;obtain⟨e0,jw,rfl⟩:=l;rw[b13];simpa using(Kv.1 jw).2
  .rw[<-f,Jx]at l;obtain⟨e0,_,rfl⟩:=l;exact b3r Y (Nc.2 ⟨o,Array.mem_toList_iff.2 (Array.mem_of_getElem? c),Z⟩)
 have v:∀i,i<ops.size->¬Ld (Array.replicate ops.size false) i:=by intro i hi;unfold Ld;simp[hi]
 refine walk (a0:=a) L M W Q ops.size _ (List.range ops.size) a w.drew E6 (λi o c _=>by simpa using(Kp.1 c).1) E6 (.inl ⟨μ,[],[],IX (kb E.c2 ops) ops 1,own0,?_⟩);have lt:∀{i:Nat} {o:Oper},ops[i]?=some o->i<ops.size:=λc=>(Kp.1 c).1;refine⟨(h.own.drew).more H.base,rfl,h.fr.trans Fr.drew,h.base,MZ Keeps.drew h.glo,h.dfr,h.size,m,.inl rfl,E6,E6,E6,λx hx=> ?_,λi o c m _=>Ol.2 ⟨c,m⟩,b1z _ _ _,
  λq C y=>absurd y (v _ (lt (I q C).1)),λt _ _ _=>rfl,λi o s d c _ _ y=>absurd y (v _ (lt c)),λk m _=>h.fresh k m,?_,λi o j c y=>absurd y (v _ (lt c)),h.anc,λi o c _=>v _ (lt c)⟩
 .obtain⟨J,u2⟩:=Ol.1 (show (x.1,x.2)∈IX (kb E.c2 ops) ops 1 from hx);exact⟨J,u2,v _ (lt J)⟩
 .rw[<-f];have l:EN w.drew (held A μ) μ a.tmps st.ρ:=λt e l=>CU.keep Keeps.drew (h.env t e l);exact c16 (d71 l)
end
def addE(ρ:List Entry)(t:Nat)(s:SV):List Entry:=⟨t,none,s⟩::ρ
def Px:List (TypeId×Nat)->List (Nat×(Nat->List SV))->List Blk
 |t::a,r::b=>.row t.1 t.2 r.1 r.2 none::Px a b
 |_,_=>[]
theorem b0h:∀(ts:List (TypeId×Nat)) (a:List (Nat×(Nat->List SV))),ts.length=a.length->(Px ts a).length=ts.length
 | [],[],_=>rfl
 |t::ts,r::a,h=>by simp only[Px,Kx,b0h ts a Ea]
 | [],_::_,h=>Ee
 |_::_,[],h=>Ee
theorem b66:∀(ts:List (TypeId×Nat)) (a:List (Nat×(Nat->List SV))) (j:Nat) (b:Blk),(Px ts a)[j]?=some b->∃t r,ts[j]?=some t/\a[j]?=some r/\b=.row t.1 t.2 r.1 r.2 none
 | [],_,j,b,h=>by simp[Px]at h
 |_::_,[],j,b,h=>by simp[Px]at h
 |t::ts,r::a,0,b,h=>by simp[Px]at h;exact⟨t,r,rfl,rfl,h.symm⟩
 |t::ts,r::a,j+1,b,h=>by obtain⟨c,d,h1,e,f⟩:=b66 ts a j b (by simpa[Px]using h);exact⟨c,d,F0,by simpa using e,f⟩
def d3s(E:Env)(t:Nat)(st:St):Option (Prop×St):=match CD t st.ρ with
 |some ⟨_,none,.fp c k i 0⟩=>match st.own[k]? with
  |some (.fam T b n none F)=>match F i with
   |⟨d,a⟩=>if b.length=a.length/\E.ak k=false then
      some (c=true/\i<n,⟨addE st.ρ t (.own st.own.length 0),st.own.set k (.fam T b n (some (i,st.own.length)) F)++ .cells T (d.map (SV.ren0 λj=>some (st.own.length+1+j)))::Px b a⟩)
    else none
  |_=>none
 |_=>none
section
variable{E:Env}{B0:Nat}{X A:Nat->Prop}{w0:World}{nt:Nat}{st:St}{a:Act}{w:World}{μ:Mu}
theorem EN.add{w:World}{H:Nat->Prop}{μ:Mu}{tmps:Array Value}{ρ:List Entry}(h:EN w H μ tmps ρ){t:Nat}{s:SV}(hs:D w H μ s (tmps.getD t undef)):EN w H μ tmps (addE ρ t s):=by
 intro b e a;simp only[addE,CD]at a;split at a
 .rename_i e1;cases a;unfold CU;exact hs
 .exact h b e a
theorem c2m(h:SD E B0 X A w0 nt st a w μ){t:Nat}{pre:Prop}{st':St}(I:d3s E t st=some (pre,st'))(hp:pre):∃d,SD E B0 X A w0 nt st' a w d:=by
 unfold d3s at I;split at I;rotate_left
 .cases I
 rename_i t' ok k i fu;split at I;rotate_left
 .cases I
 rename_i T Z n F hk;split at I;rename_i cs y hF;split at I;rotate_left
 .cases I
 rename_i be;obtain⟨be,pq⟩:=be;simp only[Ir]at I;obtain⟨rfl,rfl⟩:=I;obtain⟨rfl,hi⟩:=hp;have dn:=h.env t _ fu;have gy:=ML fu;simp only at gy;subst gy;unfold CU at dn;simp only at dn;generalize hv:a.tmps.getD t' undef=v at dn;cases dn with
 |fp U6=>
 simp only[Kt]at U6;obtain⟨R,J,b,o,wv,rfl⟩:=U6;obtain⟨bl,e,b9⟩:=h.own.blk _ _ o;rw[hk]at e;cases e;obtain⟨S,qs',U,P,_⟩:=b9;simp only[Option.map_none]at P;obtain⟨rfl,rfl⟩:=PB U;obtain⟨b',us,h1,h2,h3⟩:=P.mem i hi;rw[wv]at h1;cases h1;rcases h3 with⟨h3,_⟩|⟨_,z,rfl,V⟩
 .cases h3
 have kx:k<st.own.length:=(Jh.1 hk).1;have bk:i<J.length:=by rw[P.ql];exact hi
 rw[hF]at V;let L:=st.own.length
 let d:Mu:=λj=>if j=k then some (BM R (J.set i []))else if j=L then some (.pointer (some ⟨b,0,none⟩))else if L<j then z[j-L-1]? else μ j
 have m1:d k=some (BM R (J.set i [])):=by simp[d]
 have m2:d L=some (.pointer (some ⟨b,0,none⟩)):=by simp[d,show¬L=k from E4]
 have m3:∀j,L<j->d j=z[j-L-1]?:=λj f=>by simp[d,show¬j=k from E4,show¬j=L from E4,f]
 have m4:∀j,j≠k->j<L->d j=μ j:=λj h1 h2=>by simp[d,h1,show¬j=L from E4,show¬L<j from E4]
 have bg:∀{j x},d j=some x->(j=k/\x=BM R (J.set i []))\/(j=L/\x=.pointer (some ⟨b,0,none⟩))\/(L<j/\z[j-L-1]?=some x)\/(j≠k/\j<L/\μ j=some x):=by
  intro j x f;by_cases U:j=k
  .subst U;rw[m1]at f;exact .inl ⟨rfl,(Kh f).symm⟩
  .by_cases e2:j=L
   .subst e2;rw[m2]at f;exact .inr (.inl ⟨rfl,(Kh f).symm⟩)
   .by_cases e3:L<j
    .rw[m3 j e3]at f;exact .inr (.inr (.inl ⟨e3,f⟩))
    .rw[m4 j U E4]at f;exact .inr (.inr (.inr ⟨U,E4,f⟩))
 have b7:∀(j:Nat) (u:Value),z[j]?=some u->∃t r,Z[j]?=some t/\y[j]?=some r/\JD w (held A μ) (Xr z) u t.1 t.2 r.1 r.2 none:=by intro j u M;have G:j<z.length:=(Jh.1 M).1;have l1:=V.len;have l2:=V.rlen;simp only at l2;have g1:Z[j]?=some (Z[j]'E4):=Je _;have g2:y[j]?=some (y[j]'E4):=Je _;exact⟨_,_,g1,g2,V.rows j _ _ u g1 g2 M⟩
 have gy:∀(j:Nat) (u:Value),z[j]?=some u->∃a n m,u=.slice a n m:=λj u M=>by obtain⟨_,_,_,_,a,m,e,_⟩:=b7 j u M;exact⟨_,_,_,e⟩
 have B:∀{j x c},d j=some x->CG x c->(∃(N K:Nat) (l:List Value) (u:Value),J[N]?=some l/\l[K]?=some u/\FF u=some c/\((j=k/\N≠i)\/(j=L+K/\N=i)))\/(j≠k/\j<L/\μ j=some x):=by
  intro j x c f hx;rcases bg f with⟨rfl,rfl⟩|⟨rfl,rfl⟩|⟨G,M⟩|h4
  .obtain⟨l,u,g1,g2,q⟩:=OE.1 hx;obtain⟨N,b8⟩:=L7.1 g1;obtain⟨K,Q⟩:=L7.1 g2;obtain⟨U,e2⟩:=Uy b8 Q;exact .inl ⟨N,K,l,u,e2,Q,q,.inl ⟨rfl,U⟩⟩
  .refine .inl ⟨i,0,_,_,h2,rfl,?_,.inr ⟨rfl,rfl⟩⟩;have e:=c5a.1 hx;simp only at e;subst e;rfl
  .obtain⟨a,n,m,rfl⟩:=gy _ _ M;refine .inl ⟨i,j-L,_,_,h2,?_,Sl.1 hx,.inr ⟨E4,rfl⟩⟩;rw[show j-L=(j-L-1)+1 from E4];simpa using M
  .exact .inr h4
 have cm:∀{N K l u c},J[N]?=some l->l[K]?=some u->FF u=some c->CG (BM R J) c:=λg1 g2 q=>OE.2 ⟨_,_,Jj g1,Jj g2,q⟩;have bb:∀c,held A d c->held A μ c:=by
  rintro c (hc|⟨j,x,f,hx⟩)
  .exact .inl hc
  .rcases B f hx with⟨N,K,l,u,g1,g2,q,_⟩|⟨_,_,Q⟩
   .exact .inr ⟨k,_,o,cm g1 g2 q⟩
   .exact .inr ⟨j,x,Q,hx⟩
 have hμ:∀j x,μ j=some x->(∀R J,x≠BM R J)->d j=some x:=by
  intro j x f hx;have ba:j≠k:=λe=>by subst e;rw[o]at f;exact hx _ _ (Kh f).symm
  have G:j<L:=by
   rcases Nn j L with H|H
   .exact H
   .rw[h.fresh j H]at f;cases f
  rw[m4 j ba G];exact f
 have hf:∀j W qs2,μ j=some (BM W qs2)->∃S qs',d j=some (BM S qs')/\∀(i:Nat) (p:Value),W[i]?=some p->S[i]?=some p:=by
  intro j W qs2 f;by_cases e:j=k
  .subst e;rw[o]at f;obtain⟨rfl,rfl⟩:=PB (Kh f);exact⟨_,_,m1,λ_ _ h=>h⟩
  .have G:j<L:=by
    rcases Nn j L with H|H
    .exact H
    .rw[h.fresh j H]at f;cases f
   exact⟨_,_,(m4 j e G).trans f,λ_ _ h=>h⟩
 have hd:∀s v,D w (held A μ) μ s v->D w (held A d) d s v:=λs v h=>h.shift bb hμ hf;refine⟨d,⟨λj x f=> ?_,λj K x x' c f Q hx cw=> ?_,λj x c f hx=> ?_,h.own.bnd⟩,h.fr,h.base,λg s hg=>⟨(h.glo g s hg).1,hd _ _ (h.glo g s hg).2⟩,h.dfr,h.size,(h.env.shift hd).add (by rw[hv];exact .own m2),λj f=> ?_,λj x hx=> ?_⟩
 .rcases bg f with⟨rfl,rfl⟩|⟨rfl,rfl⟩|⟨G,M⟩|⟨ba,G,Q⟩
  .refine⟨.fam T Z n (some (i,L)) F,by rw[Jr (by simpa using kx)];simp[kx,L],R,J.set i [],rfl,⟨P.pl,by simp[P.ql],λY j1 i2 j2 C l u1 u2 c g1 g2 q O g5 g6=> ?_,λY dw=> ?_⟩,λN c' e=>by cases e;exact⟨_,wv,m2⟩⟩
   .exact P.nd Y j1 i2 j2 C l u1 u2 c (Uy g1 g2).2 g2 q (Uy O g5).2 g5 g6
   .obtain⟨b1,C,g1,g2,q⟩:=P.mem Y dw;by_cases e:i=Y
    .subst e;exact⟨b1,[],g1,H8,.inl ⟨rfl,rfl⟩⟩
    .refine⟨b1,C,g1,H9,.inr ⟨λe'=>e (Kh e'),?_⟩⟩;rcases q with⟨q,_⟩|⟨_,us3,e3,O⟩
     .cases q
     .exact⟨us3,e3,O.keep ⟨Jm _,λ_ _ _=>rfl,λc _=>bb c⟩ (λ_ _ _ _=>rfl)⟩
  .refine⟨_,by rw[Jw (by simp[L]),L5,L8];rfl,?_⟩;obtain⟨b2,vs,e2,hh,hl,da,hD⟩:=V.cells;cases e2;refine⟨b,vs,rfl,hh,Eh,da,λj s v hs hv=> ?_⟩;simp only[Iw]at hs;obtain⟨s0,bv,rfl⟩:=hs;have T9:=hD j s0 v bv hv;have t5:=Jp.1 V.memc s0 (Jj bv);refine WV bb (λkk jj x ny hx=> ?_) T9;simp only[K6]at ny;subst ny;rw[m3 _ E4,show L+1+kk-L-1=kk from E4];exact hx
  .obtain⟨t,r,g1,g2,q⟩:=b7 _ _ M;refine⟨.row t.1 t.2 r.1 r.2 none,?_,q.shift (λs v qf hs=>HM bb hs qf)⟩;rw[Jw (by simp[L]at G⊢;omega),L5,show j-st.own.length=(j-L-1)+1 by simp only[L]at G⊢;omega,Ls];have se:j-L-1<(Px Z y).length:=by rw[b0h _ _ be];exact(Jh.1 g1).1
   obtain⟨t',r',k1,k2,k3⟩:=b66 Z y _ _ (Je se);rw[g1]at k1;rw[g2]at k2;cases k1;cases k2;rw[Je se,k3]
  .obtain⟨bl,e,b9⟩:=h.own.blk j x Q;refine⟨bl,?_,b9.shift bb hμ hf⟩;rw[Jr (by simpa[L]using G),Ju (Ne.symm ba)];exact e
 .rcases B f hx with⟨Y,j1,C,u1,g1,g2,q,O⟩|⟨g1,g2,q⟩<;>rcases B Q cw with⟨i2,j2,l,u2,k1,k2,k3,k4⟩|⟨k1,k2,k3⟩
  .obtain⟨rfl,rfl⟩:=P.nd Y j1 i2 j2 C l u1 u2 c g1 g2 q k1 k2 k3;rcases O with⟨rfl,O⟩|⟨rfl,O⟩<;>rcases k4 with⟨rfl,k4⟩|⟨rfl,k4⟩
   .rfl
   .exact absurd k4 O
   .exact absurd O k4
   .rfl
  .exact absurd (h.own.inj K k x' _ c k3 o cw (cm g1 g2 q)) k1
  .exact absurd (h.own.inj j k x _ c q o hx (cm k1 k2 k3)) g1
  .exact h.own.inj j K x x' c q k3 hx cw
 .rcases B f hx with⟨Y,j1,C,u1,g1,g2,q,_⟩|⟨_,_,q⟩
  .exact h.own.rng k _ c o (cm g1 g2 q)
  .exact h.own.rng j x c q hx
 .simp only[Kj,L5,Kx,b0h _ _ be]at f;rw[m3 j (by simp only[L];omega)];exact Lr (by rw[V.len];simp only[L];omega)
 .have ba:j≠k:=λe=>H6;have:=h.anc j x hx;have G:j<L:=by
   rcases Nn j L with H|H
   .exact H
   .rw[h.fresh j H]at this;cases this
  rw[m4 j ba G];exact this
end
def selOK(E:Env)(own:List Blk)(ks:List Nat):Bool:=Rk ks&&ks.all (λk=>decide (k<own.length))&&decide (E.na<=ks.length)&&(List.range E.na).all λj=>ks.getD j 0==j
def gSel(E:Env)(ks:List Nat)(st:St):Option (Prop×St):=
 if selOK E st.own ks=true then some (True,⟨st.ρ.map λe=>{e with sv:=e.sv.ren2 λk=>BP k ks},ks.map λk=>(st.own.getD k .dead).ren λk=>BP k ks⟩)else none
section
variable{E:Env}{B0:Nat}{X A:Nat->Prop}{w0:World}{nt:Nat}{st:St}{a:Act}{w:World}{μ:Mu}
theorem c9e(h:SD E B0 X A w0 nt st a w μ){ks:List Nat}{r:Prop}{m:St}(l:gSel E ks st=some (r,m)):∃c,SD E B0 X A w0 nt m a w c:=by
 unfold gSel at l;split at l;rotate_left
 .cases l
 rename_i y;simp only[Ir]at l;obtain⟨_,rfl⟩:=l;simp only[selOK,Ix]at y;obtain⟨⟨⟨C,bw⟩,qr⟩,F⟩:=y;have z:=b0z C;let c:Mu:=λj=>(ks[j]?).bind μ
 have n:∀{j x},c j=some x->∃k,ks[j]?=some k/\μ k=some x:=λd=>by simpa[c,Jn]using d
 have u:∀k j x,BP k ks=some j->μ k=some x->c j=some x:=λk j x d i=>by have:=QR d;simp[c,this,i]
 have o:∀b,held A c b->held A μ b:=by
  rintro b (v|⟨j,x,d,hx⟩)
  .exact .inl v
  .obtain⟨k,_,i⟩:=n d;exact .inr ⟨k,x,i,hx⟩
 refine⟨c,⟨λj x d=> ?_,λj j' x G b d H hx I=> ?_,λj x b d hx=> ?_,h.own.bnd⟩,h.fr,h.base,λg s hs=>⟨(h.glo g s hs).1,HM o (h.glo g s hs).2 (h.glo g s hs).1⟩,h.dfr,h.size,λt e l=> ?_,λj d=> ?_,λj x hx=> ?_⟩
 .obtain⟨k,i,hx⟩:=n d;obtain⟨J,e,v⟩:=h.own.blk k x hx;refine⟨J.ren λk=>BP k ks,?_,v.ren o u⟩;simp[i,e]
 .obtain⟨k,i,K⟩:=n d;obtain⟨L,M,N⟩:=n H;have:=h.own.inj k L x G b K N hx I;subst this;have O:=b17 z i;have B:=b17 z M;rw[O]at B;cases B;rfl
 .obtain⟨k,_,i⟩:=n d;exact h.own.rng k x b i hx
 .rw[UI (f:=λ(e:Entry)=>{e with sv:=e.sv.ren2 λk=>BP k ks}) (λ_=>rfl),Jk]at l;obtain⟨P,Q,rfl⟩:=l;have:=h.env t P Q;unfold CU at this⊢;simp only;split at this
  .exact b1b o u this
  .exact⟨λq=>b1b o u (this.1 q),this.2⟩
 .simp only[Ke]at d;have:ks[j]?=none:=Lr d;simp[c,this]
 .have R:=Env.ak_lt (Env.an_ak hx);have d:=Jp.1 F j (by simpa using R);have S:ks[j]?=some j:=by
   rw[Je E4];simp only[M6,J4,Je (show j<ks.length from E4)]at d;rw[d]
  simp only[c,S,M0];exact h.anc j x hx
end
def c3z(m:Nat)(T:TypeId)(b:List (TypeId×Nat))(st:St):Option (Prop×St):=match st.own[m]? with
 |some (.map K false a _)=>some (∀q,a q=false,⟨st.ρ,st.own.set m (.pmap K st.own.length (λ_=>false) (λ_=>0))++[.fam T b 0 none (λ_=>⟨[],[]⟩)]⟩)
 |_=>none
section
variable{E:Env}{B0:Nat}{X A:Nat->Prop}{w0:World}{nt:Nat}{st:St}{a:Act}{w:World}{μ:Mu}
theorem c0q(h:SD E B0 X A w0 nt st a w μ){m:Nat}{T:TypeId}{I:List (TypeId×Nat)}{l:Prop}{n:St}(o:c3z m T I st=some (l,n))(R:l):∃z,SD E B0 X A w0 nt n a w z:=by
 unfold c3z at o;split at o;rotate_left
 .cases o
 rename_i K B val J;simp only[Ir]at o;obtain⟨rfl,rfl⟩:=o;have hmlt:m<st.own.length:=(Jh.1 J).1;have S:=h.fresh st.own.length (Jm _);have U:μ.set st.own.length (BM [] []) st.own.length=some (BM [] []):=Em;have f:∀{j x},μ j=some x->μ.set st.own.length (BM [] []) j=some x:=λ{j x} d=>by
  unfold Mu.set;split
  .rename_i e;rw[e,S]at d;cases d
  .exact d
 have t:∀{j x},μ.set st.own.length (BM [] []) j=some x->(j=st.own.length/\x=BM [] [])\/(j≠st.own.length/\μ j=some x):=by
  intro j x d;unfold Mu.set at d;split at d
  .exact .inl ⟨‹_›,(Kh d).symm⟩
  .exact .inr ⟨‹_›,d⟩
 have nohas:∀b,¬CG (BM [] []) b:=λb k=>by obtain⟨V,u,C,_⟩:=OE.1 k;simp at C
 have L:∀b,held A (μ.set st.own.length (BM [] [])) b->held A μ b:=by
  rintro b (k|⟨j,x,d,hx⟩)
  .exact .inl k
  .rcases t d with⟨_,rfl⟩|⟨_,y⟩
   .exact Cd
   .exact .inr ⟨j,x,y,hx⟩
 have M:∀s v,D w (held A μ) μ s v->D w (held A (μ.set st.own.length (BM [] []))) (μ.set st.own.length (BM [] [])) s v:=λs v h=>h.shift L (λj x d _=>f d) (λj F G d=>⟨F,G,f d,λ_ _ h=>h⟩);refine⟨_,⟨λj x d=> ?_,λj N x W b d y hx O=> ?_,λj x b d hx=> ?_,h.own.bnd⟩,h.fr,h.base,λg s P=>⟨(h.glo g s P).1,M _ _ (h.glo g s P).2⟩,h.dfr,h.size,h.env.shift M,λj d=> ?_,λj x hx=>f (h.anc j x hx)⟩
 .rcases t d with⟨rfl,rfl⟩|⟨ba,y⟩
  .refine⟨.fam T I 0 none (λ_=>⟨[],[]⟩),E6,[],[],rfl,⟨rfl,rfl,λi j i' N V us' u u' b C=>by simp at C,λi Y=>absurd Y (K3 _)⟩,λi c e=>Eb⟩
  .obtain⟨Z,e,k⟩:=h.own.blk j x y;have H:j<st.own.length:=(Jh.1 e).1;by_cases Q:j=m
   .subst Q;rw[J]at e;cases e;obtain⟨r,g,rfl,qp,_,_⟩:=k;have:B=λ_=>false:=Ms R;subst this;exact⟨.pmap K st.own.length (λ_=>false) (λ_=>0),by rw[Jr (by simpa using H)];simp[H],⟨_,_,U⟩,r,g,rfl,qp,λq hq=>by cases hq⟩
   .refine⟨Z,by rw[Jr (by simpa using H),Ju (Ne.symm Q)];exact e,k.shift L (λj x d _=>f d) (λj F G d=>⟨F,G,f d,λ_ _ h=>h⟩)⟩
 .rcases t d with⟨rfl,rfl⟩|⟨_,g1⟩<;>rcases t y with⟨rfl,rfl⟩|⟨_,g2⟩
  .rfl
  .exact Cd
  .exact absurd O (nohas b)
  .exact h.own.inj j N x W b g1 g2 hx O
 .rcases t d with⟨rfl,rfl⟩|⟨_,g1⟩
  .exact Cd
  .exact h.own.rng j x b g1 hx
 .simp only[J5,L5]at d;unfold Mu.set;rw[Jg E4];exact Cc
end
def XH(own:List Blk):Nat->List (TypeId×Nat)->Option (List (Nat×(Nat->List SV)))
 |_,[]=>some []
 |c,t::a=>match own[c]? with
  |some (.row T b n f _)=>if T=t.1/\b=t.2 then(XH own (c+1) a).map λr=>(n,f)::r else none
  |_=>none
theorem b3p{own:List Blk}:∀(ts:List (TypeId×Nat)) (c:Nat) (a:List (Nat×(Nat->List SV))),XH own c ts=some a->a.length=ts.length/\∀(j:Nat) (t:TypeId×Nat),ts[j]?=some t->∃r b,a[j]?=some r/\own[c+j]?=some (.row t.1 t.2 r.1 r.2 b)
 | [],c,a,h=>by simp[XH]at h;subst h;exact⟨rfl,λj t h=>Ee⟩
 |t::ts,c,a,h=>by
  simp only[XH]at h;split at h;rotate_left
  .cases h
  rename_i T sz n f b g;split at h;rotate_left
  .cases h
  rename_i e;obtain⟨rfl,rfl⟩:=e;simp only[Jk]at h;obtain⟨r,i,rfl⟩:=h;obtain⟨h1,k⟩:=b3p ts (c+1) r i;refine⟨Eu,λj l ht=> ?_⟩;match j with
  |0=>simp at ht;subst ht;exact⟨(n,f),b,rfl,g⟩
  |j+1=>
   obtain⟨m,d,o,q⟩:=k j l Fi;exact⟨m,d,by simpa using o,by rw[show c+(j+1)=c+1+j from E4];exact q⟩
def RE(j:Nat):SV->Bool
 |.osl q=>q==j
 |_=>false
def VN(c m q:Nat):Option Nat:=if ED c m q&&decide (c<q)then some (q-c-1)else none
def c0c(E:Env)(k:Nat)(st:St):Option (Prop×St):=match st.own[k]? with
 |some (.fam T a n (some (i,c)) F)=>match st.own[c]? with
  |some (.cells h g)=>(XH st.own (c+1) a).bind λf=>
   if h=T/\(g.map (SV.ren0 (VN c a.length))).all SV.memc=true/\((List.range a.length).all λj=>(g.map (SV.ren0 (VN c a.length))).any (RE j))=true/\ED c a.length k=false/\((List.range (a.length+1)).all λd=> !E.ak (c+d))=true/\E.ak k=false then
    some (True,⟨st.ρ.map λe=>{e with sv:=e.sv.uf2 c a.length},
     Qp (λq b=>if q=k then .fam T a n none (λj=>if j=i then⟨g.map (SV.ren0 (VN c a.length)),f⟩else F j)else if ED c a.length q=true then .dead else b.uf c a.length) 0 st.own⟩)
   else none
  |_=>none
 |_=>none
section
variable{E:Env}{B0:Nat}{X A:Nat->Prop}{w0:World}{nt:Nat}{st:St}{a:Act}{w:World}{μ:Mu}
theorem b6y(h:SD E B0 X A w0 nt st a w μ){k:Nat}{pre:Prop}{st':St}(J:c0c E k st=some (pre,st')):∃μ',SD E B0 X A w0 nt st' a w μ':=by
 unfold c0c at J;split at J;rotate_left
 .cases J
 rename_i T Z n i c F hk;split at J;rotate_left
 .cases J
 rename_i Tc cs hc;simp only[Jn]at J;obtain⟨R,hrows,J⟩:=J;split at J;rotate_left
 .cases J
 rename_i dv;obtain⟨rfl,t5,bw,hkr,jh,pq⟩:=dv;simp only[Ir]at J;obtain⟨_,rfl⟩:=J;obtain⟨r1,r2⟩:=b3p Z (c+1) R hrows;let m:=Z.length
 have M:∀y,ED c m y=true->E.ak y=false:=λy hy=>by simp only[ED,Ix]at hy;have:=Jp.1 jh (y-c) Ed;rw[show c+(y-c)=y from E4]at this;simpa using this
 have S:∀y,st.own.length<=y->μ y=none:=h.fresh;cases hμk:μ k with
 |none=>
  let μ':Mu:=λy=>if ED c m y=true then none else μ y
  have U:∀{y x},μ' y=some x->ED c m y=false/\μ y=some x:=by
   intro y x hy;simp only[μ']at hy;split at hy
   .cases hy
   .exact⟨by simpa using ‹¬ ED c m y=true›,hy⟩
  have bh:∀{y},ED c m y=false->μ' y=μ y:=λhy=>by simp[μ',hy]
  have V:∀b,held A μ' b->held A μ b:=by
   rintro b (hb|⟨y,x,hy,hx⟩)
   .exact .inl hb
   .exact .inr ⟨y,x,(U hy).2,hx⟩
  have dg:Drop c m (held A μ) (held A μ') μ μ':=⟨V,λy x hy hx _=>by rw[bh hy];exact hx,λy W K hy hx=>⟨W,K,by rw[bh hy];exact hx,λ_ _ h=>h⟩⟩
  refine⟨μ',⟨λy x hy=> ?_,λy y' x O b hy jf=>h.own.inj y y' x O b (U hy).2 (U jf).2,λy x b hy=>h.own.rng y x b (U hy).2,h.own.bnd⟩,h.fr,h.base,λg s L=>⟨(h.glo g s L).1,HM V (h.glo g s L).2 (h.glo g s L).1⟩,h.dfr,h.size,h.env.drop dg,λy hy=> ?_,λy x hx=> ?_⟩
  .obtain⟨te,Z8⟩:=U hy;obtain⟨bl,e,hb⟩:=h.own.blk y x Z8;have zz:y≠k:=λe=>by subst e;rw[hμk]at Z8;cases Z8
   refine⟨bl.uf c m,?_,hb.drop dg⟩;rw[XX,e];simp only[Lg,Kn];rw[Jg zz,Jg (by rw[show ED c Z.length y=ED c m y from rfl,te];simp)]
  .rw[TQ]at hy;simp only[μ'];split
   .rfl
   .exact S y hy
  .have:ED c m y=false:=by
    cases hh:ED c m y with
    |false=>rfl
    |true=>have:=M y hh;rw[Env.an_ak hx]at this;cases this
   rw[bh this];exact h.anc y x hx
 |some xk=>
 obtain⟨bl,e,b9⟩:=h.own.blk _ _ hμk;rw[hk]at e;cases e;obtain⟨W,K,rfl,cq,hhole⟩:=b9;obtain⟨p,wv,Y⟩:=hhole i c rfl;simp only[Kn]at cq;have hi:i<n:=by rw[<-cq.pl];exact(Jh.1 wv).1
 have bk:i<K.length:=by rw[cq.ql];exact hi
 obtain⟨bl,e,hokc⟩:=h.own.blk _ _ Y;rw[hc]at e;cases e;obtain⟨b,vs,rfl,hh,hl,da,hd⟩:=hokc;have hslice:∀j,j<m->∃u,μ (c+1+j)=some u/\(∃a n m,u=.slice a n m):=by
  intro j hj;have h1:=Jp.1 bw j (by simpa[m]using hj);simp only[Jz,Jx]at h1;obtain⟨s,⟨s0,bv,rfl⟩,hs⟩:=h1;obtain⟨ii,U7⟩:=L7.1 bv;have b6:ii<vs.length:=by rw[hl];exact(Jh.1 U7).1
  have hD:=hd ii s0 _ U7 (Je b6);cases s0 with
  |osl q=>
   simp only[SV.ren0,SV.ren00]at hs;split at hs
   .rename_i j' bm;simp only[RE,M6]at hs;subst hs;simp only[VN]at bm;split at bm
    .rename_i hq;simp only[Ix]at hq;cases bm;have T9:=hD;generalize vs[ii]=vv at T9;cases T9 with
     |osl jy=>exact⟨_,by rw[show c+1+(q-c-1)=q from E4];exact jy,_,_,_,rfl⟩
    .cases bm
   .simp[RE]at hs
  |own q o=>simp only[SV.ren0,SV.ren00]at hs;split at hs<;>simp[RE]at hs
  |omp q=>simp only[SV.ren0,SV.ren00]at hs;split at hs<;>simp[RE]at hs
  |oel q sz x o=>simp only[SV.ren0,SV.ren00]at hs;split at hs<;>simp[RE]at hs
  |fp ok q x o=>simp only[SV.ren0,SV.ren00]at hs;split at hs<;>simp[RE]at hs
  |clo f cs'=>simp[SV.ren0,RE]at hs
  |_=>simp[SV.ren0,SV.ren00,RE]at hs
 let I:List Value:=(List.range m).map λj=>(μ (c+1+j)).getD undef
 have jv:∀j u,I[j]?=some u↔j<m/\μ (c+1+j)=some u:=by
  intro j u;simp only[I,K1];constructor
  .intro hj;simp only[Jk]at hj;obtain⟨y,hy,rfl⟩:=hj;obtain⟨te,rfl⟩:=Jh.1 hy;simp only[List.length_range]at te;simp only[List.getElem_range];obtain⟨u,hu,_⟩:=hslice j te;exact⟨te,by rw[hu];rfl⟩
  .rintro⟨h1,P⟩;rw[Je F0];simp[P]
 let l:List Value:=.pointer (some ⟨b,0,none⟩)::I
 let μ':Mu:=λy=>if y=k then some (BM W (K.set i l))else if ED c m y=true then none else μ y
 have m1:μ' k=some (BM W (K.set i l)):=by simp[μ']
 have m3:∀y,y≠k->ED c m y=false->μ' y=μ y:=λy h1 P=>by simp[μ',h1,P]
 have U:∀{y x},μ' y=some x->(y=k/\x=BM W (K.set i l))\/(y≠k/\ED c m y=false/\μ y=some x):=by
  intro y x hy;by_cases e1:y=k
  .exact Df
  .cases C:ED c m y with
   |true=>simp[μ',e1,C]at hy
   |false=>rw[m3 y e1 C]at hy;exact .inr ⟨e1,rfl,hy⟩
 have f8:∀(j:Nat) (u:Value) (d:Nat),l[j]?=some u->FF u=some d->j<=m/\∃x,μ (c+j)=some x/\CG x d:=by
  intro j u d h1 P;match j with
  |0=>
   simp only[l,N6,K6]at h1;subst h1;exact⟨Js _,_,Y,.inl P⟩
  |j+1=>
   simp only[l,Ls]at h1;obtain⟨h3,h4⟩:=(jv j u).1 h1;exact⟨h3,u,by rw[show c+(j+1)=c+1+j from E4];exact h4,.inl P⟩
 have w7:∀{j},j<=m->ED c m (c+j)=true:=λhj=>by simp[ED];omega
 have du:∀{Q us},(K.set i l)[Q]?=some us->(Q=i/\us=l)\/(Q≠i/\K[Q]?=some us):=by
  intro Q us L;by_cases e:i=Q
  .subst e;rw[Kr bk]at L;exact .inl ⟨rfl,(Kh L).symm⟩
  .rw[Ju e]at L;exact .inr ⟨Ne.symm e,L⟩
 have cm:∀{Q j' N u d},K[Q]?=some N->N[j']?=some u->FF u=some d->CG (BM W K) d:=λg1 G B=>OE.2 ⟨_,_,Jj g1,Jj G,B⟩;have H:∀{y x d},μ' y=some x->CG x d->(y=k/\CG (BM W K) d)\/(y=k/\∃z O,ED c m z=true/\μ z=some O/\CG O d)\/(y≠k/\ED c m y=false/\μ y=some x):=by
  intro y x d hy hx;rcases U hy with⟨rfl,rfl⟩|h3
  .obtain⟨N,u,g1,G,B⟩:=OE.1 hx;obtain⟨Q,b8⟩:=L7.1 g1;obtain⟨j',bm⟩:=L7.1 G;rcases du b8 with⟨rfl,rfl⟩|⟨_,g4⟩
   .obtain⟨g5,O,g6,g7⟩:=f8 j' u d bm B;exact .inr (.inl ⟨rfl,_,O,w7 g5,g6,g7⟩)
   .exact .inl ⟨rfl,cm g4 bm B⟩
  .exact .inr (.inr h3)
 have V:∀d,held A μ' d->held A μ d:=by
  rintro d (f7|⟨y,x,hy,hx⟩)
  .exact .inl f7
  .rcases H hy hx with⟨_,h1⟩|⟨_,z,O,_,h1,P⟩|⟨_,_,h3⟩
   .exact .inr ⟨k,_,hμk,h1⟩
   .exact .inr ⟨z,O,h1,P⟩
   .exact .inr ⟨y,x,h3,hx⟩
 have dg:Drop c m (held A μ) (held A μ') μ μ':=by
  refine⟨V,λy x hy hx R7=> ?_,λy ps2 qs2 hy hx=> ?_⟩
  .have C:y≠k:=λe=>I4;rw[m3 y C hy];exact hx
  .by_cases C:y=k
   .subst C;rw[hμk]at hx;obtain⟨rfl,rfl⟩:=PB (Kh hx);exact⟨_,_,m1,λ_ _ h=>h⟩
   .exact⟨ps2,qs2,(m3 y C hy).trans hx,λ_ _ h=>h⟩
 have P8:∀z,ED c m z=true->z≠k:=λz hz e=>by subst e;rw[show ED c m z=ED c Z.length z from rfl,hkr]at hz;cases hz
 refine⟨μ',⟨λy x hy=> ?_,λy y' x O d hy jf hx cw=> ?_,λy x d hy hx=> ?_,h.own.bnd⟩,h.fr,h.base,λg s L=>⟨(h.glo g s L).1,HM V (h.glo g s L).2 (h.glo g s L).1⟩,h.dfr,h.size,h.env.drop dg,λy hy=> ?_,λy x hx=> ?_⟩
 .rcases U hy with⟨rfl,rfl⟩|⟨zz,hyr,jf⟩
  .refine⟨.fam Tc Z n none (λj=>if j=i then⟨cs.map (SV.ren0 (VN c Z.length)),R⟩else F j),by rw[XX,hk];simp,W,K.set i l,rfl,⟨cq.pl,by simp[cq.ql],λi1 j1 i2 j2 us1 N u1 u2 d g1 G B g4 g5 g6=> ?_,λi1 dw=> ?_⟩,λi c e=>Eb⟩
   .rcases du g1 with⟨rfl,rfl⟩|⟨e1,k1⟩<;>rcases du g4 with⟨rfl,rfl⟩|⟨C,k4⟩
    .obtain⟨a1,x1,a2,a3⟩:=f8 j1 u1 d G B;obtain⟨b1,x2,b2,b3⟩:=f8 j2 u2 d g5 g6;have:=h.own.inj _ _ x1 x2 d a2 b2 a3 b3;exact⟨rfl,E4⟩
    .obtain⟨a1,x1,a2,a3⟩:=f8 j1 u1 d G B;exact absurd (h.own.inj _ _ x1 _ d a2 hμk a3 (cm k4 g5 g6)) (P8 _ (w7 a1))
    .obtain⟨a1,x1,a2,a3⟩:=f8 j2 u2 d g5 g6;exact absurd (h.own.inj _ _ x1 _ d a2 hμk a3 (cm k1 G B)) (P8 _ (w7 a1))
    .exact cq.nd i1 j1 i2 j2 us1 N u1 u2 d k1 G B k4 g5 g6
   .obtain⟨b1,us1,g1,G,B⟩:=cq.mem i1 dw;by_cases e:i1=i
    .subst e;rw[wv]at g1;cases g1;refine⟨b,l,wv,H8,.inr ⟨E6,I,rfl,?_⟩⟩;rw[Jf rfl];refine⟨⟨b,vs,rfl,hh,Eh,da,λj s v hs hv=> ?_⟩,t5,by simp[I,m],r1,λj t r u h1 P h3=> ?_⟩
     .simp only[Iw]at hs;obtain⟨s0,bv,rfl⟩:=hs;refine WV V (λkk jj x ny hx=> ?_) (hd j s0 v bv hv);simp only[VN]at ny;split at ny
      .rename_i hq;simp only[ED,Ix]at hq;cases ny;exact(jv _ _).2 ⟨by simp only[m];omega,by rw[show c+1+(kk-c-1)=kk from E4];exact hx⟩
      .cases ny
     .obtain⟨h4,h5⟩:=(jv j u).1 h3;obtain⟨r',cp,h6,h7⟩:=r2 j t h1;rw[P]at h6;cases h6;obtain⟨bl,e,hb⟩:=h.own.blk _ _ h5;rw[show c+1+j=c+1+j from rfl,h7]at e;cases e;have:=JD.shift (μ':=Xr I) (λs v hp hs=>HM V hs hp) hb;obtain⟨a1,a2,a3,a4,a5,a6,a7,a8⟩:=this;exact⟨a1,a2,a3,a4,a5,.inl rfl,a7,a8⟩
    .refine⟨b1,us1,g1,by rw[Ju (Ne.symm e)];exact G,.inr ⟨E6,?_⟩⟩;rw[Jg e];rcases B with⟨B,_⟩|⟨_,us3,e3,g4⟩
     .exact absurd (Kh B).symm e
     .exact⟨us3,e3,g4.keep ⟨Jm _,λ_ _ _=>rfl,λd _=>V d⟩ (λ_ _ _ _=>rfl)⟩
  .obtain⟨bl,e,hb⟩:=h.own.blk y x jf;refine⟨bl.uf c m,?_,hb.drop dg⟩;rw[XX,e];simp only[Lg,Kn];rw[Jg zz,Jg (by rw[show ED c Z.length y=ED c m y from rfl,hyr];simp)]
 .rcases H hy hx with⟨e1,g1⟩|⟨e1,z,xz,g1,G,B⟩|⟨e1,e1',g1⟩<;>rcases H jf cw with⟨C,k1⟩|⟨C,z',xz',k1,k2,k3⟩|⟨C,e2',k1⟩
  .omega
  .omega
  .exact absurd (h.own.inj y' k _ _ d k1 hμk cw g1) C
  .omega
  .omega
  .have:=h.own.inj y' z _ _ d k1 G cw B;subst this;rw[g1]at e2';cases e2'
  .exact absurd (h.own.inj y k _ _ d g1 hμk hx k1) e1
  .have:=h.own.inj y z' _ _ d g1 k2 hx k3;subst this;rw[k1]at e1';cases e1'
  .exact h.own.inj y y' x O d g1 k1 hx cw
 .rcases H hy hx with⟨e1,g1⟩|⟨e1,z,xz,g1,G,B⟩|⟨e1,e1',g1⟩
  .exact h.own.rng k _ d hμk g1
  .exact h.own.rng z _ d G B
  .exact h.own.rng y x d g1 hx
 .rw[TQ]at hy;have kx:k<st.own.length:=(Jh.1 hk).1;simp only[μ'];rw[Jg E4];split
  .rfl
  .exact S y hy
 .have e1:y≠k:=λe=>H6;have C:ED c m y=false:=by
   cases hh:ED c m y with
   |false=>rfl
   |true=>have:=M y hh;rw[Env.an_ak hx]at this;cases this
  rw[m3 y e1 C];exact h.anc y x hx
end
def g17(k:Nat)(st:St):Option (Prop×St):=match st.own[k]? with
 |some (.rowh T a n f c i u)=>if u.all SV.pure then some (True,⟨st.ρ,st.own.set k (.row T a n (λq=>DW (decide (q=i)) u (f q)) c)⟩)else none
 |_=>none
section
variable{E:Env}{B0:Nat}{X A:Nat->Prop}{w0:World}{nt:Nat}{st:St}{a:Act}{w:World}{μ:Mu}
theorem c4m(h:SD E B0 X A w0 nt st a w μ){k:Nat}{l:Prop}{g:St}(d:g17 k st=some (l,g)):SD E B0 X A w0 nt g a w μ:=by
 unfold g17 at d;split at d;rotate_left
 .cases d
 rename_i T sz n f c i u t;split at d;rotate_left
 .cases d
 rename_i C;simp only[Ir]at d;obtain⟨_,rfl⟩:=d;have F:k<st.own.length:=(Jh.1 t).1;refine⟨⟨λj x hj=> ?_,h.own.inj,h.own.rng,h.own.bnd⟩,h.fr,h.base,h.glo,h.dfr,h.size,h.env,λj hj=>h.fresh j Et,h.anc⟩;obtain⟨G,e,y⟩:=h.own.blk j x hj;by_cases z:j=k
 .subst z;rw[t]at e;cases e;refine⟨_,by rw[Kr F],?_⟩;obtain⟨b,o,m,H,rfl,I,J,K,hi,L,M,N,O,P,Q,R⟩:=y;refine DE.row_weak (f:=λq=>if q=i then u else f q) (λq=>by have:=Xy (decide (q=i)) u (f q);simpa only[Jq]using this) ⟨_,m,rfl,I,J,K,λq r=> ?_,.inr ⟨b,o,H,E4,rfl,N,O,P,λq j s v r hs B=> ?_⟩⟩
  .by_cases e:q=i
   .subst e;simp only[Kt];exact⟨L,C⟩
   .simp only[Jg e];exact M q r e
  .by_cases e:q=i
   .subst e;simp only[Kt]at hs;exact R j s v hs B
   .simp only[Jg e]at hs;exact Q q j s v r e hs B
 .exact⟨G,by rw[Ju (Ne.symm z)];exact e,y⟩
end
def Yd(ops:Array Oper)(done:List Nat):List Nat:=
 (List.range ops.size).filter λi=> !done.contains i&&((ops[i]?).map (λo=>o.after.toList.all λe=> !Region.binds .any e||done.contains e.on)).getD false
def Wl(P:Program){α:Type}(s:Sem α):Prop:=∀w a c,s.run P w=.ok a c->∀b,s.run P b=.ok a b
section
variable{P:Program}{α β:Type}
theorem OZ(a:α):Wl P (pure a:Sem α):=λw b w1 h w'=>by simp only[Sem.run_pure,Result.ok.injEq]at h⊢;exact⟨h.1,Ji⟩
theorem Oc{s:Sem α}{k:α->Sem β}(e:Wl P s)(f:∀a,Wl P (k a)):Wl P (s >>= k):=λw b w1 h c=>by
 rw[L9]at h⊢;cases hs:s.run P w with
 |ok a d=>
  rw[hs]at h;rw[e w a d hs c];exact f a _ _ _ h c
 |halt x d=>rw[hs]at h;cases h
theorem TR(x:Halt):Wl P (Sem.halt x:Sem α):=λw a w1 h=>by simp[Sem.run]at h
theorem b7y:Wl P program:=λw a w1 h w'=>by simp only[program,Sem.run,Result.ok.injEq]at h⊢;exact⟨h.1,Ji⟩
theorem b2g(t:TypeId):Wl P (underlying t):=Oc b7y λp=>by
 split
 .exact OZ _
 .exact TR _
theorem f9f(t:TypeId):Wl P (typeInfo t):=Oc b7y λp=>by
 split
 .exact OZ _
 .exact TR _
theorem d57(t:TypeId):Wl P (sizeOf t):=Oc (f9f t) λ_=>OZ _
def Nv(P:Program)(s:Sem α):Prop:=∀w a b,s.run P w≠.ok a b
theorem Nv.wl{s:Sem α}(h:Nv P s):Wl P s:=λw a b e=>absurd e (h w a b)
theorem b9x{s:Sem α}{k:α->Sem β}(h:∀a,Nv P (k a)):Nv P (s >>= k):=λw b w1 e=>by
 rw[L9]at e;cases hs:s.run P w with
 |ok a c=>rw[hs]at e;exact h a _ _ _ e
 |halt x c=>rw[hs]at e;cases e
theorem d61(x:Halt):Nv P (Sem.halt x:Sem α):=λw a w1 h=>by simp[Sem.run]at h
theorem nv_rt(e:RuntimeError):Nv P (runtimePanic e:Sem α):=b9x λp=>by
 split;all_goals first
  |exact d61 _
  |exact b9x λ_=>b9x λ_=>d61 _
theorem c14(k:IntKind)(x y:Int)(c:BoundsCode):Wl P (boundsPanic k x y c:Sem α):=by unfold boundsPanic;dsimp only;split;all_goals exact Nv.wl (b9x λ_=>nv_rt _)
theorem c5b(v:Value):Wl P (asIntOf v):=by
 unfold asIntOf;split
 .exact OZ _
 .exact TR _
 .exact TR _
theorem d34(v:Value):Wl P (Instr.sureAddr v):=by
 unfold Instr.sureAddr;split
 .exact OZ _
 .exact TR _
theorem d8f(t:TypeId)(x i:Value):Wl P (Instr.indexAt t x i):=by
 unfold Instr.indexAt;refine Oc (c5b _) λq=>Oc (b2g _) λd=> ?_;dsimp only;repeat' first
  |exact OZ _
  |exact TR _
  |exact c14 _ _ _ _
  |exact d34 _
  |exact b2g _
  |exact d57 _
  |refine Oc ?_ λ_=> ?_
  |split
theorem d7q(x:Value)(y:Nat)(c:BoundsCode):Wl P (Instr.sliceBound x y c):=by
 unfold Instr.sliceBound;refine Oc (c5b _) λq=> ?_;dsimp only;repeat' first
  |exact OZ _
  |exact c14 _ _ _ _
  |split
theorem c9d(b:Bool)(n m:Nat)(lo hi mx:Option Value):Wl P (Instr.sliceBounds b n m lo hi mx):=by
 unfold Instr.sliceBounds;dsimp only;repeat' first
  |exact OZ _
  |exact TR _
  |exact d7q _ _ _
  |refine Oc ?_ λ_=> ?_
  |split
def Vm(P:Program)(o:Oper):Bool:=match o.guard with
 |some _=>false
 |none=>match o.op with
  |.move _=>true
  |.indexAddr _ _ _=>true
  |.slice t _ _ _ _=>match P.underlying t with
   |some (.slice _)=>true
   |_=>false
  |.fieldAddr s _ f=>match P.underlying s with
   |some (.struct a)=>match a[f]? with
    |some b=>match P.info? b.type with
     |some i=> !Nat.beq i.size 0
     |none=>false
    |none=>false
   |_=>false
  |_=>false
theorem c3u{t:TypeId}{d:TypeDesc}{w:World}(h:P.underlying t=some d):(underlying t).run P w=.ok d w:=by simp[underlying,program,Sem.run,h,Result.andThen]
theorem f1d{s:TypeId}{x:Value}{f:Nat}{fs:Array Field}{b:Field}{i:TypeInfo}(e:P.underlying s=some (.struct fs))(g:fs[f]?=some b)(j:P.info? b.type=some i)(k:i.size≠0):Wl P (Instr.fieldAt s x f):=by
 intro w a d h c;unfold Instr.fieldAt at h⊢;rw[L9,c3u e]at h⊢;simp only[Result.andThen,g]at h⊢;have:Wl P (do let a<-Instr.sureAddr x;pure (.pointer (some (<-fieldPlace a b))):Sem Value):=by refine Oc (d34 _) λq=>Oc ?_ λ_=>OZ _;intro w a d h c;unfold fieldPlace at h⊢;rw[L9,HQ j]at h⊢;simp only[Result.andThen,Jg k]at h⊢;exact OZ _ _ _ _ h c
 exact this w a d h c
theorem d9i{t e:TypeId}{x:Value}{lo hi mx:Option Value}(c:P.underlying t=some (.slice e)):Wl P (Instr.sliceAt t x lo hi mx):=by
 intro w a d h b;unfold Instr.sliceAt at h⊢;rw[L9,c3u c]at h⊢;simp only[Result.andThen]at h⊢;have:Wl P (Instr.slice t x lo hi mx):=by
  intro w a d h b;unfold Instr.slice at h⊢;rw[L9,c3u c]at h⊢;simp only[Result.andThen]at h⊢;cases x
  case slice a n m=>exact(Oc (c9d _ _ _ _ _ _) λq=>Oc (d57 _) λ_=>OZ _:Wl P _) _ _ _ h b
  all_goals simp[stuck]at h
 exact this w a d h b
theorem d2k{o:Oper}(a:Vm P o=true){ev:Operand->Value}{w:World}:(∃v,∀c,(execOp ev o).run P c=.ok (.value v) c)\/∃x d,(execOp ev o).run P w=.halt x d:=by
 have b:∀{s:Sem Value},Wl P s->execOp ev o=(do pure (.value (<-s)))->(∃v,∀c,(execOp ev o).run P c=.ok (.value v) c)\/∃x d,(execOp ev o).run P w=.halt x d:=by
  intro s hs e;rw[e,L9];cases hr:s.run P w with
  |ok v d=>
   refine .inl ⟨v,λc=> ?_⟩;rw[L9,hs _ _ _ hr c];simp[Result.andThen]
  |halt x d=>exact .inr ⟨x,d,rfl⟩
 unfold Vm at a;split at a
 .cases a
 split at a
 .rename_i x cy;exact b (s:=pure (ev x)) (OZ _) Gq
 .rename_i t x i cy;exact b (d8f t (ev x) (ev i)) Gq
 .rename_i t x lo hi mx cy;split at a
  .rename_i e g;exact b (d9i (lo:=lo.map ev) (hi:=hi.map ev) (mx:=mx.map ev) (x:=ev x) g) Gq
  .cases a
 .rename_i s x f cy;split at a
  .rename_i fs j;split at a
   .rename_i fd k;split at a
    .rename_i i l;refine b (f1d (x:=ev x) j k l ?_) Gq;intro e;rw[e]at a;cases a
    .cases a
   .cases a
  .cases a
 .cases a
end
def Un(ops:Array Oper)(x:Oper)(i:Nat):List Oper->Nat->Bool
 | [],_=>true
 |y::r,j=>(Nat.beq j i||FA y i||FA x j||x.apart ops y)&&Un ops x i r (j+1)
def TT(P:Program)(ops:Array Oper):List Oper->Nat->List Nat
 | [],_=>[]
 |x::r,i=>match Vm P x&&Un ops x i ops.toList 0 with
  |true=>i::TT P ops r (i+1)
  |false=>TT P ops r (i+1)
def f11:List Oper->Bool
 | []=>true
 |o::r=>match o.op with
  |.select _ _=>false
  |_=>f11 r
theorem c12:∀{l:List Oper},f11 l=true->∀o∈l,∀a b,o.op≠.select a b
 | [],_,o,h,_,_=>Eg
 |x::r,c,o,h,a,b=>by
  unfold f11 at c;split at c
  .cases c
  .rename_i hx;rcases Jt.1 h with rfl|h
   .exact λe=>hx a b e
   .exact c12 c o h a b
def d49(P:Program)(ops:Array Oper):List Nat:=match f11 ops.toList with
 |true=>TT P ops ops.toList 0
 |false=>[]
theorem b7c{ops:Array Oper}{x:Oper}{i:Nat}:∀{l:List Oper} {n:Nat},Un ops x i l n=true->∀{j y},l[j]?=some y->n+j≠i->FA y i=true\/FA x (n+j)=true\/x.apart ops y=true
 | [],_,_,_,_,h=>Ee
 |z::r,n,a,j,y,h=>by
  unfold Un at a;rw[K9]at a;intro b;cases j with
  |zero=>
   simp only[N6,K6]at h;subst h;simp only[Kk,Nat.beq_eq]at a;rcases a.1 with((h|h)|h)|h
   .exact absurd h b
   .exact .inl h
   .exact .inr (.inl h)
   .exact .inr (.inr h)
  |succ j=>
   have:=b7c a.2 (j:=j) (y:=y) Ea E4;rw[show n+1+j=n+(j+1)from E4]at this;exact this
theorem b6k{P:Program}{ops:Array Oper}:∀{l:List Oper} {n i:Nat},i∈TT P ops l n->∃x,n<=i/\l[i-n]?=some x/\Vm P x=true/\Un ops x i ops.toList 0=true
 | [],_,_,h=>by simp[TT]at h
 |z::r,n,i,h=>by
  have a:i∈TT P ops r (n+1)->∃x,n<=i/\(z::r)[i-n]?=some x/\Vm P x=true/\Un ops x i ops.toList 0=true:=λh=>by obtain⟨x,h1,c,d⟩:=b6k h;refine⟨x,E4,?_,d⟩;rw[show i-n=(i-(n+1))+1 from E4];simpa using c
  unfold TT at h;split at h
  .rename_i b;rcases Jt.1 h with rfl|h
   .rw[K9]at b;exact⟨z,Jm _,E6,b.1,b.2⟩
   .exact a h
  .exact a h
def YH(ops:Array Oper)(q done:List Nat):List Nat:=match (Yd ops done).find? (λi=>q.contains i)with
 |some i=>[i]
 |none=>Yd ops done
def andL:List Nat->(Nat->Prop)->Prop
 | [],_=>True
 |i::r,f=>f i/\andL r f
theorem c6d{f:Nat->Prop}:∀{l:List Nat},andL l f->∀i∈l,f i
 | [],_,i,a=>by simp at a
 |x::r,h,i,a=>by
  rcases Jt.1 a with rfl|a
  .exact h.1
  .exact c6d h.2 i a
def YA(E:Env)(nt:Nat)(ops:Array Oper)(q:List Nat)(K:St->Prop):Nat->List Nat->St->Prop
 |0,done,a=>match Yd ops done with
  | []=>K a
  |_::_=>False
 |f+1,done,a=>VX (YH ops q done) λl=>match l with
  | []=>K a
  |i::r=>andL (i::r) λi=>match ops[i]? with
   |some o=>SU E o (λa=>match d9x E nt ops a o with
    |some (p,b)=>KP p/\b.forceO o (YA E nt ops q K f (i::done))
    |none=>False) a
   |none=>False
def anyQ(E:Env)(nt:Nat)(ops:Array Oper)(K:St->Prop)(st:St):Prop:=VX (d49 E.P ops) λq=>YA E nt ops q K ops.size [] st
structure Rel (ops:Array Oper) (listed:Array Bool) (done:List Nat):Prop where
 size:listed.size=ops.size
 get:∀i,i<ops.size->listed[i]?=some (done.contains i)
 lt:∀i∈done,i<ops.size
theorem f4x{ops:Array Oper}{listed:Array Bool}{done:List Nat}(h:Rel ops listed done):Region.ready .any ops listed=Yd ops done:=by
 unfold Region.ready Yd;apply List.filter_congr;intro i hi;have b:i<ops.size:=Ez;have g:∀j d,listed.getD j d=if j<ops.size then done.contains j else d:=by
  intro j d;split
  .rename_i a;rw[Nb,h.get j a];rfl
  .rename_i a;rw[Nb,Array.getElem?_eq_none (by rw[h.size];omega)];rfl
 rw[g,Jf b];congr 1;congr 1;have c:∀j,listed.getD j false=done.contains j:=by
  intro j;rw[g];split
  .rfl
  .rename_i a;symm;rw[<-Bool.not_eq_true,List.contains_iff_mem];exact λe=>a (h.lt j e)
 cases ops[i]? with
 |none=>rfl
 |some o=>simp only[Kn,c,Array.all_toList]
theorem Rel.next{ops:Array Oper}{listed:Array Bool}{done:List Nat}(h:Rel ops listed done){i:Nat}(hi:i<ops.size):Rel ops (listed.setIfInBounds i true) (i::done):=by
 refine⟨by simp[h.size],λj a=> ?_,λj a=> ?_⟩
 .by_cases e:i=j
  .subst e;rw[Array.getElem?_setIfInBounds_self_of_lt (by rw[h.size];exact hi)];simp
  .rw[M8 e,h.get j a];congr 1;simp only[List.contains_cons];have:(j==i)=false:=by simpa using Ne.symm e
   rw[this,Nj]
 .rcases Jt.1 a with rfl|a
  .exact hi
  .exact h.lt j a
section
variable{E:Env}{B0:Nat}{X A:Nat->Prop}{w0:World}{nt:Nat}
def UY(R:Exit->Act->World->Prop):Exit->Act->World->Prop
 |.normal,a,w=>R .normal a w
 |_,_,_=>False
theorem d4f(hE:EnvOK E)(hC:GM E){ops:Array Oper}{q:List Nat}(hq:∀i∈q,i∈d49 E.P ops){K:St->Prop}{R:Exit->Act->World->Prop}(hR:∀st a w μ,SD E B0 X A w0 nt st a w μ->K st->R .normal a w):
 ∀(f:Nat) (done:List Nat) (listed:Array Bool) (st:St) (a:Act) (w:World) (μ:Mu),SD E B0 X A w0 nt st a w μ->Rel ops listed done->YA E nt ops q K f done st->wpAny E.P .any ops (UY R) f listed a w:=by
 intro f;induction f with
 |zero=>
  intro done listed st a w μ h t d;simp only[YA]at d;unfold wpAny;rw[f4x t];split at d
  .rename_i e;exact⟨e,hR st a w μ h d⟩
  .exact d.elim
 |succ f ih=>
  intro done listed st a w μ h t d;simp only[YA,b4p]at d;have one:∀i∈YH ops q done,∀o,ops[i]?=some o->∀u:Act->World->Prop,(∀z B,wpAny E.P .any ops (UY R) f (listed.setIfInBounds i true) z B->u z B)->if Region.wanted o (yielded ops a.tmps)then o.wp E.P a w u (UY R)else u (a.put o.dst undef) w:=by
   intro i n o l u L;split at d
   .rename_i e;rw[e]at n;cases n
   rename_i i0 r e;rw[e]at n;have M:=c6d d i n;rw[l]at M;simp only at M;obtain⟨st1,μ1,m,C⟩:=b1p h M;split at C;rotate_left
   .exact C.elim
   rename_i p N hs;rw[St.forceO_eq]at C;have b6:i<ops.size:=(Kp.1 l).1;exact b0u hE hC m hs C.1.out (K:=u) (Q:=UY R) (λz B O S=>L z B (ih _ _ N z B O S (t.next b6) C.2))
  have T:=f4x t;unfold YH at one d;split at one
  .rename_i i hf;have P2:=List.find?_some hf;have U:=List.mem_of_find?_eq_some hf;have H:=hq i (by simpa using P2);unfold d49 at H;split at H;rotate_left
   .cases H
   rename_i V;obtain⟨o,_,l,I,jy⟩:=b6k H;rw[Nat.sub_zero,Li]at l;have g:=one i E6 o l (wpAny E.P .any ops (UY R) f (listed.setIfInBounds i true)) (λ_ _ h=>h);have hg:o.guard=none:=by
    unfold Vm at I;split at I
    .cases I
    .assumption
   have dt:Region.wanted o (yielded ops a.tmps)=true:=by simp[Region.wanted,hg]
   rw[Jf dt]at g;unfold Oper.wp at g;rcases d2k I (ev:=a.eval) (w:=w)with⟨v,hv⟩|⟨x,w1,hx⟩
   .rw[hv w]at g;refine wpAny_first l (λj o cs b J=>c12 V o (by simpa using Array.mem_of_getElem? J) cs b) (λc a w h=>h) f listed a w (λj oj J ba W Y=> ?_) (by rw[T];exact U) (.inl ⟨dt,hv⟩) g;have m:=b7c jy (j:=j) (y:=oj) (by rw[Li];exact J) E4;rw[Lg]at m;have wt:∀{x:Oper} {k:Nat},FA x k=true->∃e∈x.after,Region.binds .any e=true/\e.on=k:=λ{x k} h=>by
     unfold FA at h;rw[Jz]at h;obtain⟨e,F,s⟩:=h;rw[K9,M6]at s;exact⟨e,by simpa using F,s.1,s.2⟩
    rcases m with m|m|m
    .obtain⟨e,F,s,Z⟩:=wt m;exact absurd Z (Y e F s)
    .obtain⟨e,F,s,Z⟩:=wt m;rw[<-T]at U;obtain⟨_,o',my,bw⟩:=mem_ready.1 U;rw[l]at my;cases my;have G:=bw e F s;rw[Z]at G;have m5:=(Kp.1 J).1;have h3:=t.get j m5;rw[Nb,h3]at W G;simp only[L4]at W G;rw[W]at G;cases G
    .exact m
   .rw[hx]at g;unfold Oper.upon at g;split at g<;>first|exact g.elim|(rename_i e;cases e)
  .unfold wpAny;rw[T];refine⟨λe=> ?_,λi n=> ?_⟩
   .rename_i Y;rw[Y]at d;simp only[e]at d;exact hR st a w μ h d
   .have bk:i<ops.size:=by
     have:=Kv.1 (show i∈(List.range ops.size).filter _ from n);simpa using this.1
    have l:ops[i]?=some ops[i]:=Mh bk;have:=one i n _ l _ (λ_ _ h=>h);unfold wpOp;rw[l];simp only;split
    .rename_i g;rw[Jf g]at this;exact .inl this
    .rename_i g;rw[Jg g]at this;exact this
theorem c10(k:EnvOK E)(l:GM E)(m:E.P.follows .mixedOrders=true){id:Nat}{ops:Array Oper}{K:St->Prop}{st:St}{a:Act}{w:World}{μ:Mu}(h:SD E B0 X A w0 nt st a w μ)(c:anyQ E nt ops K st){R:Exit->Act->World->Prop}
 (n:∀b g j d,SD E B0 X A w0 nt b g j d->K b->R .normal g j):(Code.region id ops true).wp E.P R a w:=by
 refine Code.wp_mono (Q:=UY R) (λe a w h=> ?_) (wp_region_any m ?_)
 .cases e<;>first|exact h|exact h.elim
 change wpAny E.P .any ops (UY R) ops.size (Array.replicate ops.size false) a w.drew;unfold anyQ at c;rw[b4p]at c;refine d4f k l (λi f=>f) n ops.size [] _ st a w.drew μ ⟨h.own.drew,h.fr.trans Fr.drew,h.base,MZ Keeps.drew h.glo,h.dfr,h.size,h.env.keep Keeps.drew,h.fresh,h.anc⟩ ⟨E6,λi f=>by simp[f],E6⟩ c
end
structure Post where
 n:St->Prop
 x:Nat->St->Prop
 r:St->Prop
inductive NL where
 |slot (t:Nat) (T:TypeId) (sz:Nat)
 |cell (k o:Nat) (T:TypeId) (sz:Nat)
def f23:SV->Bool
 |.con (.slice none 0 0)=>true
 |_=>false
theorem c6k{s:SV}(h:f23 s=true):s=.con (.slice none 0 0):=by
 unfold f23 at h;split at h
 .rfl
 .cases h
def XC(n:NL)(st:St):St:=match n with
 |.slot t T a=>match CD t st.ρ with
  |some e=>match e.guard with
   |none=>match f23 e.sv with
    |true=>⟨⟨t,none,.osl st.own.length⟩::st.ρ,st.own++[.row T a 0 (λ_=>[]) none]⟩
    |false=>st
   |some _=>st
  |none=>st
 |.cell k o T a=>match st.own[k]? with
  |some (.cells c b)=>match b[o]? with
   |some s=>match f23 s with
    |true=>⟨st.ρ,st.own.set k (.cells c (b.set o (.osl st.own.length)))++[.row T a 0 (λ_=>[]) none]⟩
    |false=>st
   |none=>st
  |_=>st
def nilL:List NL->St->St
 | [],st=>st
 |n::r,st=>nilL r (XC n st)
section
variable{E:Env}{B0:Nat}{X A:Nat->Prop}{w0:World}{nt:Nat}{st:St}{a:Act}{w:World}{μ:Mu}
theorem b7p(h:SD E B0 X A w0 nt st a w μ)(n:NL):∃l,SD E B0 X A w0 nt (XC n st) a w l:=by
 have q:μ st.own.length=none:=h.fresh _ (Jm _);have r:∀(T:TypeId) (sz:Nat),Own B0 X A w (μ.set st.own.length (.slice none 0 0)) (st.own++[.row T sz 0 (λ_=>[]) none])/\Keeps w w (held A μ) (held A (μ.set st.own.length (.slice none 0 0))) μ (μ.set st.own.length (.slice none 0 0)):=
  λT sz=>c0p (e:=T) (sz:=sz) (f:=λ_=>[]) (h.own.more Vt) q E6
 have u:∀k,st.own.length+1<=k->(μ.set st.own.length (.slice none 0 0)) k=none:=λk d=>by unfold Mu.set;rw[if_neg E4];exact h.fresh k E4
 have y:∀j x,E.an j=some x->(μ.set st.own.length (.slice none 0 0)) j=some x:=λj x hx=>by have:=h.anc j x hx;unfold Mu.set;rw[Jg (λe=>by rw[e,q]at this;cases this)];exact this
 have z:(μ.set st.own.length (.slice none 0 0)) st.own.length=some (.slice none 0 0):=Em;cases n with
 |slot t T sz=>
  simp only[XC];split;rotate_left
  .exact⟨μ,h⟩
  rename_i e B;split;rotate_left
  .exact⟨μ,h⟩
  rename_i K;split;rotate_left
  .exact⟨μ,h⟩
  rename_i hs;obtain⟨o1,o2⟩:=r T sz;refine⟨_,o1,h.fr,h.base,MZ o2 h.glo,h.dfr,h.size,λL M g=> ?_,λk d=>u k (by simpa using d),y⟩;simp only[CD]at g;split at g
  .rename_i c;cases g;subst c;have:=h.env t e B;unfold CU at this⊢;rw[K]at this;simp only at this⊢;rw[ML B]at this;rw[c6k hs]at this;generalize a.tmps.getD t undef=v at this;cases this;exact .osl z
  .exact(h.env.keep o2) L M g
 |cell k o T sz=>
  simp only[XC];split;rotate_left
  .exact⟨μ,h⟩
  rename_i N C F;split;rotate_left
  .exact⟨μ,h⟩
  rename_i s hs;split;rotate_left
  .exact⟨μ,h⟩
  rename_i O;obtain⟨o1,o2⟩:=r T sz;have m:k<st.own.length:=(Jh.1 F).1;refine⟨_,⟨λj x P=> ?_,o1.inj,o1.rng,o1.bnd⟩,h.fr,h.base,MZ o2 h.glo,h.dfr,h.size,h.env.keep o2,λk d=>u k (by simpa using d),y⟩;obtain⟨Q,c,G⟩:=o1.blk j x P;by_cases e:j=k
  .subst e;rw[Jr m,F]at c;cases c;refine⟨.cells N (C.set o (.osl st.own.length)),by rw[Jr (by simpa using m)];simp[m],?_⟩;obtain⟨b,R,rfl,S,hl,U,H⟩:=G;refine⟨b,R,rfl,S,Eh,U,λi V v hs' I=> ?_⟩;by_cases J:i=o
   .subst J;have:=H i s v hs I;rw[c6k O]at this;have W:i<C.length:=(Jh.1 hs).1;rw[Kr W]at hs';cases hs';cases this;exact .osl z
   .rw[Ju (Ne.symm J)]at hs';exact H i V v hs' I
  .refine⟨Q,?_,G⟩;by_cases bm:j<st.own.length
   .rw[Jr bm]at c;rw[Jr G5,Ju (Ne.symm e)];exact c
   .rw[Jw E4]at c;rw[Jw G5];simpa using c
theorem d0d(l:List NL):∀{st:St} {μ:Mu},SD E B0 X A w0 nt st a w μ->∃b,SD E B0 X A w0 nt (nilL l st) a w b:=by
 induction l with
 |nil=>intro st μ h;exact⟨μ,h⟩
 |cons n l c=>intro st μ h;obtain⟨b,d⟩:=b7p h n;exact c d
end
theorem c51{E:Env}{B0:Nat}{X A:Nat->Prop}{w0:World}{nt:Nat}{st:St}{a:Act}{w:World}{μ:Mu}(h:SD E B0 X A w0 nt st a w μ){l:List Nat}:SD E B0 X A w0 nt ⟨NO l st.ρ,st.own⟩ a w μ:=
 ⟨h.own,h.fr,h.base,h.glo,h.dfr,h.size,λt e b=>h.env t e (b03 b).2,h.fresh,h.anc⟩
def gk(l:List Nat)(_:Nat):List Ghost:=[.keep l]
def f8e(E:Env)(g:Ghost)(st:St):Option (Prop×St):=match g with
 |.focus t=>d3s E t st
 |.unfocus k=>c0c E k st
 |.newFam m T c=>c3z m T c st
 |.nil t T a=>some (True,XC (.slot t T a) st)
 |.sel d=>gSel E d st
 |.fz k=>some (True,st.fz E k)
 |.keep l=>some (True,⟨NO l st.ρ,st.own⟩)
 |.flat k=>g17 k st
 |.poolN T a t=>(d36 T a t st).map λs=>(True,s)
 |.poolTake k j p t b=>b5v E k j p t b st
 |.poolSeal k j p b=>b5a E k j p b st
 |.orders|.two _|.poolPut _ _ _=>none
theorem c4p{E:Env}{B0:Nat}{X A:Nat->Prop}{w0:World}{nt:Nat}{st:St}{a:Act}{w:World}{μ:Mu}(h:SD E B0 X A w0 nt st a w μ){g:Ghost}{c:Prop}{d:St}(b:f8e E g st=some (c,d))(e:c):∃f,SD E B0 X A w0 nt d a w f:=by
 cases g with
 |focus t=>exact c2m h b e
 |unfocus k=>exact b6y h b
 |newFam m T Ts=>exact c0q h b e
 |nil t T n=>cases b;exact b7p h _
 |sel ks=>exact c9e h b
 |fz k=>cases b;exact c8m h k
 |keep l=>cases b;exact⟨μ,c51 h⟩
 |flat k=>exact⟨μ,c4m h b⟩
 |orders=>cases b
 |two t=>cases b
 |poolN T n t=>
  simp only[f8e,Iq]at b;obtain⟨s,hs,_,rfl⟩:=b;exact c18 h hs
 |poolPut t p i=>cases b
 |poolTake k j p t i=>exact b6u h b e
 |poolSeal k j p i=>exact b55 h b e
def Ub(p q:Prop):Prop:=p->q
theorem Ub.mk{p q:Prop}(h:p->q):Ub p q:=h
theorem Ub.out{p q:Prop}(h:Ub p q):p->q:=h
attribute [irreducible] Ub
def two(t:Nat)(st:St):Option (Int×St×St):=match CD t st.ρ with
 |some ⟨_,none,.int k x⟩=>some (x,⟨⟨t,none,.int k 0⟩::st.ρ,st.own⟩,⟨⟨t,none,.int k 1⟩::st.ρ,st.own⟩)
 |_=>none
theorem c1x{E:Env}{B0:Nat}{X A:Nat->Prop}{w0:World}{nt:Nat}{st:St}{a:Act}{w:World}{μ:Mu}(h:SD E B0 X A w0 nt st a w μ){t:Nat}{k:IntKind}{x:Int}{n:Nat}(c:CD t st.ρ=some ⟨n,none,.int k x⟩):SD E B0 X A w0 nt ⟨⟨t,none,.int k x⟩::st.ρ,st.own⟩ a w μ:=by
 refine⟨h.own,h.fr,h.base,h.glo,h.dfr,h.size,λd e b=> ?_,h.fresh,h.anc⟩;simp only[CD]at b;split at b
 .rename_i ht;cases b;have f:=h.env t _ c;have hs:=ML c;simp only at hs;subst hs;exact f
 .exact h.env d e b
def RA(E:Env)(K:St->Prop):List Ghost->St->Prop
 | [],st=>K st
 |.two t::a,st=>match two t st with
  |some (x,c,d)=>KP (x=0\/x=1)/\Ub (x=0) (c.force (RA E K a))/\Ub (x=1) (d.force (RA E K a))
  |none=>False
 |.poolPut t p e::a,st=>match b49 E t p e st with
  |some F=>QU λv=>(F v.val).force (RA E K a)
  |none=>False
 |g::a,st=>match f8e E g st with
  |some (p,b)=>KP p/\b.force (RA E K a)
  |none=>False
def PJ(E:Env)(K:St->Prop):List Ghost->St->Prop
 | []=>K
 |g::a=>RA E K (g::a)
theorem XI{E:Env}{B0:Nat}{X A:Nat->Prop}{w0:World}{nt:Nat}{a:Act}{w:World}{K:St->Prop}:∀(j:List Ghost) {st:St} {μ:Mu},SD E B0 X A w0 nt st a w μ->RA E K j st->∃d e,SD E B0 X A w0 nt d a w e/\K d:=by
 intro j;induction j with
 |nil=>intro st μ h b;exact⟨st,μ,h,b⟩
 |cons g j l=>
  intro st μ h b;unfold RA at b;split at b
  .cases ‹List.cons _ _=[]›
  .rename_i t f i;cases i;split at b
   .rename_i x s0 s1 c;simp only[St.force_eq]at b;obtain⟨hx,r,s⟩:=b;unfold two at c;split at c
    .rename_i n k y o;cases c;rcases hx.out with rfl|rfl
     .exact l (c1x h o) (r.out rfl)
     .exact l (c1x h o) (s.out rfl)
    .cases c
   .exact b.elim
  .rename_i t p wt f i;cases i;split at b
   .rename_i F c;obtain⟨v,e,m⟩:=b1v h c;have q:=b.out v;rw[St.force_eq]at q;exact l m q
   .exact b.elim
  .rename_i g' f _ _ i;cases i;split at b
   .rename_i p d c;rw[St.force_eq]at b;obtain⟨e,m⟩:=c4p h c b.1.out;exact l m b.2
   .exact b.elim
structure Inv where
 β:Type
 st:β->St
 ok:β->Prop
 μ:β->Nat
 nl:List NL:=[]
 sub:β->Option (Nat->Option Inv):=λ_=>none
 un:Option Nat:=none
def c32(F:Post->St->Prop)(Q:Post):Nat->St->Prop
 |0,_=>False
 |n+1,st=>F ⟨c32 F Q n,Q.x,Q.r⟩ st
def Br(b:Bool)(p q:Prop):Prop:=match b with
 |true=>p
 |false=>q
theorem Br.mk{b:Bool}{p q:Prop}(h:b=true->p)(k:b=false->q):Br b p q:=by cases b;exact k rfl;exact h rfl
theorem Br.t{p q:Prop}(h:Br true p q):p:=h
theorem Br.f{p q:Prop}(h:Br false p q):q:=h
theorem Br.litT{b:Bool}{p q:Prop}(h:b=true)(a:p):Br b p q:=by subst h;exact a
theorem Br.litF{b:Bool}{p q:Prop}(h:b=false)(a:q):Br b p q:=by subst h;exact a
attribute [irreducible] Br
def Uf:Code->Nat
 |.region id _ _=>id
 |.seq a _=>Uf a
 |.block _ c=>Uf c
 |.loop c=>Uf c
 |.scope c=>Uf c
 |_=>0
def PZ(gr:Nat->List Ghost)(id:Nat):Bool:=match gr id with
 |.orders::_=>true
 |_=>false
def JH(b:Bool)(g:Nat->Bool):Code->Bool
 |.region id ops d=> !d||g id||Th (kb b ops) ops
 |.seq x y=>JH b g x&&JH b g y
 |.cond _ x y=>JH b g x&&JH b g y
 |.block _ c=>JH b g c
 |.loop c=>JH b g c
 |.scope c=>JH b g c
 |_=>true
noncomputable def EZ(E:Env)(nt:Nat)(I:Nat->Option Inv)(c:Code)(Q:Post)(st:St):Prop:=
 Code.rec (motive:=λ_=>(Nat->Option Inv)->Post->St->Prop)
  (λ_ Q st=>Q.n st)
  (λid ops d _ Q st=>match d with
    |true=>match E.gr id with
     |.orders::h=>anyQ E nt ops (PJ E Q.n h) st
     |_=>d7r E nt ops (PJ E Q.n (E.gr id)) st
    |false=>Oh E nt ops (PJ E Q.n (E.gr id)) ops.toList st)
  (λ_ _ a b I Q st=>a I ⟨λe=>b I Q e,Q.x,Q.r⟩ st)
  (λc _ _ x y I Q st=>match CE E st.ρ none c with
    |some (.bool b)=>Br b (x I Q st) (y I Q st)
    |some (.ub p q)=>Ub p (x I Q st)/\Ub q (y I Q st)
    |_=>False)
  (λi _ b I Q st=>b I ⟨Q.n,λj e=>if j=i then PJ E Q.n (E.gr (1000+i)) e else Q.x j e,Q.r⟩ st)
  (λf b I Q st=>match I (Uf f)with
    |some v=>match v.un with
     |some n=>c32 (λQ st=>b I Q st) Q n st
     |none=>∃z,v.ok z/\TA (nilL v.nl st) (v.st z)/\∀z,v.ok z->match ancB E (v.st z)with
      |true=>b ((v.sub z).getD I) ⟨λe=>∃g,v.ok g/\v.μ g<v.μ z/\TA e (v.st g),Q.x,Q.r⟩ (v.st z)
      |false=>False
    |none=>False)
  (λ_ _ _ _ _ _ _ _ _=>False)
  (λi _ Q st=>Q.x i st)
  (λ_ b I Q st=>b I Q st)
  (λ_ _ Q st=>Q.n st)
  (λ_ _ _ _=>False)
  (λ_ Q st=>Q.r st)
  (λ_ _ _ _=>False)
  c I Q st
section
variable{E:Env}{nt:Nat}{I:Nat->Option Inv}{Q:Post}{st:St}
theorem g16:EZ E nt I .skip Q st=Q.n st:=rfl
theorem g0s{id:Nat}{ops:Array Oper}{d:Bool}:EZ E nt I (.region id ops d) Q st=match d with
 |true=>match E.gr id with
  |.orders::a=>anyQ E nt ops (PJ E Q.n a) st
  |_=>d7r E nt ops (PJ E Q.n (E.gr id)) st
 |false=>Oh E nt ops (PJ E Q.n (E.gr id)) ops.toList st:=rfl
theorem f8n{a b:Code}:EZ E nt I (.seq a b) Q st=EZ E nt I a ⟨λc=>EZ E nt I b Q c,Q.x,Q.r⟩ st:=rfl
theorem f89{c:Operand}{x y:Code}:EZ E nt I (.cond c x y) Q st=match CE E st.ρ none c with
 |some (.bool b)=>Br b (EZ E nt I x Q st) (EZ E nt I y Q st)
 |some (.ub p q)=>Ub p (EZ E nt I x Q st)/\Ub q (EZ E nt I y Q st)
 |_=>False:=rfl
theorem f9w{i:Nat}{b:Code}:EZ E nt I (.block i b) Q st=EZ E nt I b ⟨Q.n,λj a=>if j=i then PJ E Q.n (E.gr (1000+i)) a else Q.x j a,Q.r⟩ st:=rfl
theorem g1e{b:Code}:EZ E nt I (.loop b) Q st=match I (Uf b)with
 |some v=>match v.un with
  |some n=>c32 (λQ st=>EZ E nt I b Q st) Q n st
  |none=>∃z,v.ok z/\TA (nilL v.nl st) (v.st z)/\∀z,v.ok z->match ancB E (v.st z)with
   |true=>EZ E nt ((v.sub z).getD I) b ⟨λa=>∃c,v.ok c/\v.μ c<v.μ z/\TA a (v.st c),Q.x,Q.r⟩ (v.st z)
   |false=>False
 |none=>False:=rfl
theorem f7z{f:Operand}{t:Array Tmp}{a b:Code}:EZ E nt I (.rangeFunc f t a b) Q st=False:=rfl
theorem f5s{i:Nat}:EZ E nt I (.exit i) Q st=Q.x i st:=rfl
theorem f73{b:Code}:EZ E nt I (.scope b) Q st=EZ E nt I b Q st:=rfl
theorem g0r{l:Nat}:EZ E nt I (.label l) Q st=Q.n st:=rfl
theorem g0n{l:Nat}:EZ E nt I (.goto l) Q st=False:=rfl
theorem g1r:EZ E nt I .ret Q st=Q.r st:=rfl
theorem f8k{m:String}:EZ E nt I (.refuse m) Q st=False:=rfl
end
theorem c9f{P:Program}{Q:Exit->Act->World->Prop}{c:Code}(J:Nat->Act->World->Prop)
 (i:∀n a w,J n a w->c.wp P (Exit.then (λo q=>∃m,m<n/\J m o q) Q) a w):∀n a w,J n a w->(Code.loop c).wp P Q a w:=by
 intro n a w h b k r;have s:∀n a w,J n a w->∃e o q,Q e o q/\Arrives P (lone (b.at a (.code c::.inLoop c::k)) r w) b k r e o q:=by
  intro n;induction n using Nat.strongRecOn with
  |_ n t=>
   intro a w u;obtain⟨e,d,f,g,fe⟩:=i n a w u b (.inLoop c::k) r;cases e with
   |normal=>
    obtain⟨m,v,j⟩:=g;obtain⟨e₂,a₂,w₂,hq₂,harr₂⟩:=t m v d f j;exact Dk
   |exit id=>exact⟨_,d,f,g,.pass (x:=.inLoop c) rfl (λ_ _=>.inl E6) fe⟩
   |goto l=>exact⟨_,d,f,g,.pass (x:=.inLoop c) rfl (λ_ _=>.inl E6) fe⟩
   |ret=>exact⟨_,d,f,g,.pass (x:=.inLoop c) rfl (λ_ _=>.inl E6) fe⟩
   |panic ch=>exact⟨_,d,f,g,.pass (x:=.inLoop c) rfl (λ_ _=>.inl E6) fe⟩
   |outgrown=>exact⟨_,d,f,g,.pass (x:=.inLoop c) rfl (λ_ _=>.inl E6) fe⟩
 obtain⟨e,o,q,g,fe⟩:=s n a w h;exact⟨e,o,q,g,.of_steps (.one step_loop) fe⟩
def LW(P:Program)(c:Code)(Q:Exit->Act->World->Prop)(a:Act)(w:World):Prop:=∀(b:Frame) (k:List Item) (d:List Frame),∃e f g,Q e f g/\Arrives P (lone (b.at a (.code c::.inLoop c::k)) d w) b k d e f g
theorem LW.loop{P:Program}{Q:Exit->Act->World->Prop}{c:Code}{a:Act}{w:World}(h:LW P c Q a w):(Code.loop c).wp P Q a w:=λb k d=>
 let ⟨e,a',w',hq,fe⟩:=h b k d
 ⟨e,a',w',hq,.of_steps (.one step_loop) fe⟩
theorem LW.once{P:Program}{Q:Exit->Act->World->Prop}{c:Code}{a:Act}{w:World}(h:c.wp P (Exit.then (λj m=>LW P c Q j m) Q) a w):LW P c Q a w:=by
 intro b k i;obtain⟨e,d,f,g,fe⟩:=h b (.inLoop c::k) i;cases e with
 |normal=>
  obtain⟨e₂,a₂,w₂,hq₂,harr₂⟩:=g b k i;exact Dk
 |exit id=>exact⟨_,d,f,g,.pass (x:=.inLoop c) rfl (λ_ _=>.inl E6) fe⟩
 |goto l=>exact⟨_,d,f,g,.pass (x:=.inLoop c) rfl (λ_ _=>.inl E6) fe⟩
 |ret=>exact⟨_,d,f,g,.pass (x:=.inLoop c) rfl (λ_ _=>.inl E6) fe⟩
 |panic ch=>exact⟨_,d,f,g,.pass (x:=.inLoop c) rfl (λ_ _=>.inl E6) fe⟩
 |outgrown=>exact⟨_,d,f,g,.pass (x:=.inLoop c) rfl (λ_ _=>.inl E6) fe⟩
section
variable{E:Env}{B0:Nat}{X A:Nat->Prop}{w0:World}{nt:Nat}
def PostOK(E:Env)(B0:Nat)(X A:Nat->Prop)(w0:World)(nt:Nat)(Q:Post)(R:Exit->Act->World->Prop):Prop:=
 (∀st a w μ,SD E B0 X A w0 nt st a w μ->Q.n st->R .normal a w)/\(∀i st a w μ,SD E B0 X A w0 nt st a w μ->Q.x i st->R (.exit i) a w)/\(∀st a w μ,SD E B0 X A w0 nt st a w μ->Q.r st->R .ret a w)
theorem d2s(k:EnvOK E)(m:GM E){ops:Array Oper}{R:Exit->Act->World->Prop}{K:St->Prop}:∀(l:List Oper) (st:St) (a:Act) (w:World) (μ:Mu),SD E B0 X A w0 nt st a w μ->Oh E nt ops K l st->
 (∀d e f c,SD E B0 X A w0 nt d e f c->K d->R .normal e f)->wpList E.P ops R l a w:=by
 intro l;induction l with
 |nil=>
  intro st a w μ h b g;exact g st a w μ h b
 |cons o l n=>
  intro st a w μ h b g;simp only[b2a]at b;obtain⟨st1,μ1,q,b⟩:=b1p h b;unfold SI at b;split at b;rotate_left
  .exact b.elim
  rename_i p i hs;rw[St.forceO_eq]at b;refine wpList_step (λKc j=> ?_);exact b0u k m q hs b.1.out (λe f c hs=>j _ _ (n i e f c hs b.2 g))
theorem b68(hE:EnvOK E)(hC:GM E)(hm:E.P.follows .mixedOrders=true):∀(c:Code) (I:Nat->Option Inv) (Q:Post) (R:Exit->Act->World->Prop) (st:St) (a:Act) (w:World) (μ:Mu),JH E.c2 (PZ E.gr) c=true->SD E B0 X A w0 nt st a w μ->PostOK E B0 X A w0 nt Q R->
 EZ E nt I c Q st->c.wp E.P R a w:=by
 intro c;induction c with
 |skip=>intro I Q R st a w μ _ h u o;exact wp_skip (u.1 st a w μ h o)
 |region id ops d=>
  intro I Q R st a w μ f9 h u o;simp only[g0s]at o;have O:∀{k B C m},SD E B0 X A w0 nt k B C m->PJ E Q.n (E.gr id) k->R .normal B C:=by
   intro k B C m hs K;cases W:E.gr id with
   |nil=>rw[W]at K;exact u.1 k B C m hs K
   |cons g Y=>
    rw[W]at K;obtain⟨F,G,J,dz⟩:=XI _ hs K;exact u.1 F B C G J dz
  cases d with
  |false=>
   exact wp_region_list (d2s hE hC _ st a w μ h o (λk B C m hs K=>O hs K))
  |true=>
   dsimp only at o;split at o
   .rename_i Y W;refine c10 hE hC hm h o (λk B C m hs K=> ?_);cases Y with
    |nil=>exact u.1 k B C m hs K
    |cons g Y=>
     obtain⟨F,G,J,dz⟩:=XI _ hs K;exact u.1 F B C G J dz
   .rename_i j9;have ho:PZ E.gr id=false:=by
     unfold PZ;split
     .rename_i Y e;exact absurd e (j9 Y)
     .rfl
    exact c9z hE hC hm (by simpa[JH,ho]using f9) h o (λk B C m hs K=>O hs K)
 |seq x y S T=>
  intro I Q R st a w μ f9 h u o;simp only[JH,K9]at f9;refine wp_seq (S I ⟨λk=>EZ E nt I y Q k,Q.x,Q.r⟩ _ st a w μ f9.1 h ⟨λk B C m hs H=>T I Q R k B C m f9.2 hs u H,λi k B C m hs H=>u.2.1 i k B C m hs H,λk B C m hs H=>u.2.2 k B C m hs H⟩ o)
 |cond c x y S T=>
  intro I Q R st a w μ f9 h u o;simp only[JH,K9]at f9;simp only[f89]at o;split at o
  .rename_i b hb;have hd:=h.opds (g:=none) (λq b e=>Eb) _ _ hb;generalize hv:a.eval c=v at hd;cases hd;refine wp_cond hv ?_;cases b
   .exact T I Q R st a w μ f9.2 h u o.f
   .exact S I Q R st a w μ f9.1 h u o.t
  .rename_i hb;have hd:=h.opds (g:=none) (λq b e=>Eb) _ _ hb;generalize hv:a.eval c=v at hd;cases hd with
   | @ub b p q h1 h2=>
   refine wp_cond hv ?_;cases b
   .exact T I Q R st a w μ f9.2 h u (o.2.out (h2 rfl))
   .exact S I Q R st a w μ f9.1 h u (o.1.out (h1 rfl))
  .exact o.elim
 |block i b Z=>
  intro I Q R st a w μ f9 h u o;have O:∀{k B C m},SD E B0 X A w0 nt k B C m->PJ E Q.n (E.gr (1000+i)) k->R .normal B C:=by
   intro k B C m hs K;cases W:E.gr (1000+i)with
   |nil=>rw[W]at K;exact u.1 k B C m hs K
   |cons g Y=>
    rw[W]at K;obtain⟨F,G,J,dz⟩:=XI _ hs K;exact u.1 F B C G J dz
  refine wp_block (Z I ⟨Q.n,λj k=>if j=i then PJ E Q.n (E.gr (1000+i)) k else Q.x j k,Q.r⟩ _ st a w μ Gr h ⟨λk B C m hs H=>u.1 k B C m hs H,λj k B C m hs H=> ?_,λk B C m hs H=>u.2.2 k B C m hs H⟩ o);show (if j=i then R .normal B C else R (.exit j) B C);split
  .rename_i e;exact O hs (by simpa[e]using H)
  .rename_i e;replace H:Q.x j k:=by simpa[e]using H
   exact u.2.1 j k B C m hs H
 |loop b Z=>
  intro I Q R st a w μ f9 h u o;simp only[g1e]at o;split at o;rotate_left
  .exact o.elim
  rename_i v hv;split at o
  .rename_i n H;have key:∀(n:Nat) (st:St) (a:Act) (w:World) (μ:Mu),SD E B0 X A w0 nt st a w μ->c32 (λQ st=>EZ E nt I b Q st) Q n st->LW E.P b R a w:=by
    intro n;induction n with
    |zero=>intro st a w μ _ h;exact h.elim
    |succ n ihn=>
     intro st a w μ hs o;refine LW.once ?_;exact Z I ⟨c32 (λQ st=>EZ E nt I b Q st) Q n,Q.x,Q.r⟩ _ st a w μ Gr hs ⟨λF M N G J H=>ihn F M N G J H,λi F M N G J H=>u.2.1 i F M N G J H,λF M N G J H=>u.2.2 F M N G J H⟩ o
   exact(key n st a w μ h o).loop
  obtain⟨z,hz,mn,hround'⟩:=o;have n8:∀z,v.ok z->ancB E (v.st z)=true/\EZ E nt ((v.sub z).getD I) b ⟨λk=>∃U,v.ok U/\v.μ U<v.μ z/\TA k (v.st U),Q.x,Q.r⟩ (v.st z):=by
   intro z hz;have:=hround' z hz;split at this
   .rename_i e;exact⟨e,this⟩
   .exact this.elim
  obtain⟨μ0,h0⟩:=d0d v.nl h;obtain⟨m,h'⟩:=b6p h0 mn (n8 z hz).1;refine c9f (λn B C=>∃z L,v.ok z/\v.μ z=n/\SD E B0 X A w0 nt (v.st z) B C L) (λn B C hJ=> ?_) (v.μ z) a w ⟨z,m,hz,rfl,h'⟩;obtain⟨U,L,rk,rfl,hs⟩:=hJ;refine Z ((v.sub U).getD I) ⟨λk=>∃V,v.ok V/\v.μ V<v.μ U/\TA k (v.st V),Q.x,Q.r⟩ _ (v.st U) B C L Gr hs ⟨λF M N G J H=> ?_,λi F M N G J H=>u.2.1 i F M N G J H,λF M N G J H=>u.2.2 F M N G J H⟩ (n8 U rk).2;obtain⟨V,P9,b6,s9⟩:=H;obtain⟨μ3,h3⟩:=b6p J s9 (n8 V P9).1;exact⟨v.μ V,b6,V,μ3,P9,rfl,h3⟩
 |exit i=>intro I Q R st a w μ _ h u o;exact wp_exit (u.2.1 i st a w μ h o)
 |ret=>intro I Q R st a w μ _ h u o;exact wp_ret (u.2.2 st a w μ h o)
 |rangeFunc f p x y _ _=>intro I Q R st a w μ _ h u o;exact o.elim
 |scope b Z=>
  intro I Q R st a w μ f9 h u o;exact wp_scope_straight (Z I Q _ st a w μ Gr h ⟨u.1,u.2.1,u.2.2⟩ o)
 |label l=>intro I Q R st a w μ _ h u o;exact wp_label (u.1 st a w μ h o)
 |goto l=>intro I Q R st a w μ _ h u o;exact o.elim
 |refuse s=>intro I Q R st a w μ _ h u o;exact o.elim
end
end Go.Proofs.YtaihldljnlgnoaaGreatDoor.V
