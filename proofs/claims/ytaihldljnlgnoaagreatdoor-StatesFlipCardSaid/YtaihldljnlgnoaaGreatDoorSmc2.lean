/-
  Parts of the proof: V8 V9 V10 M1 V11 V12 V13 V14. Conditions: none.
-/
import Derived.Test.YtaihldljnlgnoaaGreatDoorSmc1
import Derived.MapKept
import Derived.ChangeKeysEq
set_option maxRecDepth 100000
set_option maxHeartbeats 40000000
namespace Go.Proofs.YtaihldljnlgnoaaGreatDoor.V
open Go
def SV.kill0(S:List Nat):SV->SV
 |.osl j=>if S.contains j then .any else .osl j
 |.oel j d i b=>if S.contains j then .any else .oel j d i b
 |.fp e j i o=>if S.contains j then .any else .fp e j i o
 |.own j o=>.own j o
 |.agg _=>.any
 |.tup _=>.any
 |.clo f a=>if a.all (λc=>match c with|.osl j=> !S.contains j|.fp _ j _ _=> !S.contains j|.oel _ _ _ _=>false|.agg _|.tup _=>false|.clo _ a=>a.isEmpty|_=>true)then .clo f a else .any
 |s=>s
def SV.kill1(S:List Nat):SV->SV
 |.agg a=>.agg (a.map (SV.kill0 S))
 |s=>s.kill0 S
def SV.kill2(S:List Nat):SV->SV
 |.tup a=>.tup (a.map (SV.kill1 S))
 |s=>s.kill1 S
def Blk.kill(S:List Nat):Blk->Blk
 |.cells T d=>.cells T (d.map (SV.kill0 S))
 |.pmap K k a BP=>if S.contains k then .dead else .pmap K k a BP
 |.rowh T e n f c i u=>.rowh T e n f c i (u.map (SV.kill0 S))
 |b=>b
structure Keeps' (S:List Nat) (w w':World) (H H':Nat->Prop) (μ μ':Mu):Prop where
 size:w.heap.size<=w'.heap.size
 block:∀b,b<w.heap.size->¬H b->w'.heap[b]?=w.heap[b]?
 less:∀b,b<w.heap.size->H' b->H b
 own:∀j x,j∉S->μ j=some x->μ' j=some x
 ptr:∀k x,k∈S->μ k=some x->(∃a n m,x=.slice a n m)\/∃ps qs,x=BM ps qs
section
variable{w w':World}{H H':Nat->Prop}{μ μ':Mu}{S:List Nat}
theorem KF{s:SV}{v:Value}(c:Keeps' S w w' H H' μ μ')(h:D w H μ s v):s.pure=true->D w' H' μ' s v:=by
 induction h with
 |int=>exact λ_=>.int
 |bool=>exact λ_=>.bool
 |con=>exact λ_=>.con
 |own h=>intro hp;simp[SV.pure,SV.pure0]at hp
 |osl h=>intro hp;simp[SV.pure,SV.pure0]at hp
 |oel h=>intro hp;simp[SV.pure,SV.pure0]at hp
 |omp h=>intro hp;simp[SV.pure,SV.pure0]at hp
 |fp h=>intro hp;simp[SV.pure,SV.pure0]at hp
 |mp r g d k hl l ih=>
  exact λ_=>.mp r g (λn=>d (c.less _ k.lt n)) (k.keep (c.block _ k.lt d)) hl (λq i s v x hs hv=>ih q i s v x hs hv (Jp.1 (hl q x).2 s (Jj hs)))
 |sl a b o m g k hx y t hl l ih=>
  exact λ_=>.sl a b o m g k hx y (λz=>by obtain⟨e,d,u⟩:=t z;exact⟨e,λn=>d (c.less _ u.1 n),u.keep c.size (c.block _ u.1 d)⟩) hl (λi j s f hs=>ih i j s f hs (Jp.1 (hl i f).2 s (Jj hs)))
 |rel b o g f d t hl l ih=>
  exact λ_=>.rel b o g f (λn=>d (c.less _ t.1 n)) (t.keep c.size (c.block _ t.1 d)) hl (λi j s f hs=>ih i j s f hs (Jp.1 (hl i f).2 s (Jj hs)))
 |agg vs hl l ih=>intro hp;simp[SV.pure,SV.pure0]at hp
 |tup vs hl l ih=>intro hp;simp[SV.pure,SV.pure0]at hp
 |clo vs hl l ih=>
  exact Cq
 |ub A B=>exact λ_=>.ub A B
 |any=>exact λ_=>.any
theorem b2s{ok:Bool}{k i off:Nat}{v:Value}(a:Keeps' S w w' H H' μ μ')(hS:k∉S)(h:D w H μ (.fp ok k i off) v):D w' H' μ' (.fp ok k i off) v:=
 D.fp_keep (λb c e=>⟨b,c,a.own _ _ hS e,λ_ h=>h⟩) h
theorem XZ{s:SV}{v:Value}(c:Keeps' S w w' H H' μ μ')(h:D w H μ s v):D w' H' μ' (s.kill0 S) v:=by
 have k:∀{j:Nat} {b:Nat},μ j=some (.pointer (some ⟨b,0,none⟩))->j∉S:=λh x=>by rcases c.ptr _ _ x h with⟨a,n,m,e⟩|⟨_,_,e⟩<;>cases e
 have l:∀{j:Nat} {r:Option Nat},μ j=some (.map r)->j∉S:=λh x=>by rcases c.ptr _ _ x h with⟨a,n,m,e⟩|⟨_,_,e⟩<;>cases e
 cases h with
 |fp h=>
  simp only[SV.kill0];split
  .exact .any
  .rename_i e;exact b2s c Fm (.fp h)
 |omp h=>exact .omp (c.own _ _ (l h) h)
 |mp r g q t d f=>exact KF c (.mp r g q t d f) rfl
 |int=>exact .int
 |bool=>exact .bool
 |con=>exact .con
 |own h=>
  exact .own (c.own _ _ (k h) h)
 |osl h=>
  rename_i j n m a;simp only[SV.kill0];split
  .exact .any
  .rename_i e;exact .osl (c.own _ _ Fm h)
 |oel h=>
  simp only[SV.kill0];split
  .exact .any
  .rename_i e;exact .oel (c.own _ _ Fm h)
 |sl a b o m g t hx hc u d f=>exact KF c (.sl a b o m g t hx hc u d f) rfl
 |rel b o g y q u d f=>exact KF c (.rel b o g y q u d f) rfl
 |agg z d f=>exact .any
 |tup z d f=>exact .any
 |clo z d f=>
  simp only[SV.kill0];split
  .rename_i C;refine .clo z d (λi s v hs E=> ?_);have hc:=Jp.1 C s (Jj hs);have F:=f i s v hs E;cases F with
   |own h=>
    exact .own (c.own _ _ (k h) h)
   |omp h=>exact .omp (c.own _ _ (l h) h)
   |fp h=>exact b2s c Ey (.fp h)
   |mp r g q t d f=>exact KF c (.mp r g q t d f) rfl
   |osl h=>exact .osl (c.own _ _ Ey h)
   |oel h=>simp at hc
   |agg=>simp at hc
   |tup=>simp at hc
   |clo G I J=>exact KF c (.clo G I J) I2
   |int=>exact .int
   |bool=>exact .bool
   |con=>exact .con
   |ub A B=>exact .ub A B
   |any=>exact .any
   |sl a b o m g t hx K u d f=>exact KF c (.sl a b o m g t hx K u d f) rfl
   |rel b o g y q u d f=>exact KF c (.rel b o g y q u d f) rfl
  .exact .any
 |ub A B=>exact .ub A B
 |any=>exact .any
theorem b3u{s:SV}{v:Value}(a:Keeps' S w w' H H' μ μ')(h:D w H μ s v):D w' H' μ' (s.kill1 S) v:=by
 unfold SV.kill1;split
 .cases h with
  |agg b hl c=>
   refine .agg b Eh (λi s v hs d=> ?_);simp only[Iw]at hs;obtain⟨e,f,rfl⟩:=hs;exact XZ a (c i e v f d)
 .exact XZ a h
theorem b3n{s:SV}{v:Value}(a:Keeps' S w w' H H' μ μ')(h:D w H μ s v):D w' H' μ' (s.kill2 S) v:=by
 unfold SV.kill2;split
 .cases h with
  |tup b hl c=>
   refine .tup b Eh (λi s v hs d=> ?_);simp only[Iw]at hs;obtain⟨e,f,rfl⟩:=hs;exact b3u a (c i e v f d)
 .exact b3u a h
theorem DE.change{x:Value}{bl:Blk}(d:Keeps' S w w' H H' μ μ')(t:∀b,CG x b->w'.heap[b]?=w.heap[b]?)(h:DE w H μ x bl):DE w' H' μ' x (bl.kill S):=by
 cases bl with
 |cells T cs=>
  obtain⟨b,J,rfl,y,hl,L,l⟩:=h;refine⟨b,J,rfl,(t b (.inl rfl)).trans y,Eh,L,λi s v hs z=> ?_⟩;simp only[Iw]at hs;obtain⟨R,U,rfl⟩:=hs;exact XZ d (l i R v U z)
 |row T N n f c=>
  obtain⟨a,m,rfl,V,A,B,hl,h⟩:=h;refine⟨a,m,rfl,V,A,B,hl,?_⟩;rcases h with h|⟨b,o,J,O,rfl,y,W,L,l⟩
  .exact .inl h
  .exact .inr ⟨b,o,J,O,rfl,(t b (KA O)).trans y,W,L,λi j s v G hs z=>KF d (l i j s v G hs z) (Jp.1 (hl i G).2 s (Jj hs))⟩
 |map K ag M val=>
  obtain⟨r,g,rfl,A,hl,l⟩:=h;exact⟨r,g,rfl,A.keep (t r (.inl rfl)),hl,λq i s v I hs z=>KF d (l q i s v I hs z) (Jp.1 (hl q I).2 s (Jj hs))⟩
 |fam T Ts n bt F=>
  obtain⟨C,E,rfl,h,y⟩:=h;refine⟨C,E,rfl,h.keep ⟨d.size,d.block,d.less⟩ t,y.keep (λi c p e B=>d.own _ _ (λhS=> ?_) B)⟩;obtain⟨p',e1,P⟩:=y i c e;rw[B]at P;cases P;have G:i<n:=H3;obtain⟨b,us,Q,_⟩:=h.mem i G;rw[e1]at Q;cases Q;rcases d.ptr _ _ hS B with⟨a,n,m,e⟩|⟨_,_,e⟩<;>cases e
 |pmap K k M BP=>
  simp only[Blk.kill];split
  .exact Ji
  rename_i hS;obtain⟨⟨C,E,X⟩,r,g,rfl,A,l⟩:=h;exact⟨⟨C,E,d.own _ _ (by simpa using hS) X⟩,r,g,rfl,A.keep (t r (.inl rfl)),λq I=>by obtain⟨p,e,h⟩:=l q I;exact⟨p,e,b2s d (by simpa using hS) h⟩⟩
 |rowh T N n f c i u=>exact OQ.to (SV.kill0 S) (λb hx=>t b (.inl hx)) (λs v Y h=>KF d h Y) (λs v h=>XZ d h) h
 |pool T N n l al ln ct=>
  obtain⟨C,E,rfl,h⟩:=h;exact⟨C,E,rfl,h.keep ⟨d.size,d.block,d.less⟩ t⟩
 |dead=>exact Ji
end
structure After' (S:List Nat) (B0:Nat) (X A:Nat->Prop) (w w':World) (μ μ':Mu) (own':List Blk):Prop where
 own:Own B0 X A w' μ' own'
 fr:Fr B0 X w w'
 keeps:Keeps' S w w' (held A μ) (held A μ') μ μ'
theorem b15{B0:Nat}{X A:Nat->Prop}{w w':World}{μ:Mu}{own:List Blk}(h:Own B0 X A w μ own)(S:B0<=w.heap.size){k:Nat}{x y:Value}{bl:Blk}(l:μ k=some x)(W:∃a n m,x=.slice a n m)
 (Y:∃a n m,y=.slice a n m) (d:FF y=none\/FF y=FF x\/(∃b,FF y=some b/\w.heap.size<=b/\b<w'.heap.size/\B0<=b)) (u:w.heap.size<=w'.heap.size) (H:∀b,b<w.heap.size->FF x≠some b->w'.heap[b]?=w.heap[b]?)
 (Z:w'.os=w.os) (tz:w'.tape=w.tape) (V8:w'.output=w.output)
 (b9:Keeps' [k] w w' (held A μ) (held A (μ.set k y)) μ (μ.set k y)->DE w' (held A (μ.set k y)) (μ.set k y) y bl) (V9:w.drawn<=w'.drawn:=by first|exact Jm _|exact Nat.le_succ _):
 After' [k] B0 X A w w' μ (μ.set k y) ((own.map (Blk.kill [k])).set k bl):=by
 obtain⟨xa,xn,xm,rfl⟩:=W;obtain⟨o,q,r,rfl⟩:=Y;have v:=h.rng;have I:Keeps' [k] w w' (held A μ) (held A (μ.set k (.slice o q r))) μ (μ.set k (.slice o q r)):=by
  refine⟨u,λb f B=>H b f (λe=>B (.inr ⟨k,_,l,.inl e⟩)),λb f B=> ?_,λj z hj c=>by simp only[K4]at hj;simp[Mu.set,hj,c],λj z hj c=>by simp only[K4]at hj;subst hj;rw[l]at c;cases c;exact .inl ⟨_,_,_,rfl⟩⟩;rcases B with B|⟨j,z,hj,c⟩
  .exact .inl B
  .unfold Mu.set at hj;split at hj
   .cases hj;rw[Sl]at c;rcases d with d|d|⟨T,d,J,_⟩
    .rw[d]at c;cases c
    .rw[d]at c;exact .inr ⟨k,_,l,.inl c⟩
    .rw[d]at c;cases c;omega
   .exact .inr ⟨j,z,hj,c⟩
 have U:∀j z b,j≠k->μ j=some z->CG z b->FF (Value.slice xa xn xm)≠some b:=λj z b hj c f e=>hj (h.inj j k z _ b c l f (.inl e));refine⟨⟨λj z hj=> ?_,λj K z L b hj s c M=> ?_,λj z b hj c=> ?_,λb f=>Kb (h.bnd b f) u⟩,⟨Z,tz,V8,λ_=>V9,u,λi hi hX=> ?_⟩,I⟩
 .by_cases e:j=k
  .subst e;have:z=.slice o q r:=F9;subst this;obtain⟨C,N,_⟩:=h.blk j _ l;have E:j<own.length:=(Jh.1 N).1;exact⟨bl,by simp[E],b9 I⟩
  .have s:μ j=some z:=Fg;obtain⟨C,N,pt⟩:=h.blk j z s;refine⟨C.kill [k],by rw[Ju (Ne.symm e),K1,N];rfl,pt.change I (λb f=>H b (v j z b s f).1 (U j z b e s f))⟩
 .have F:∀j z,Mu.set μ k (.slice o q r) j=some z->(j=k/\z=.slice o q r)\/(j≠k/\μ j=some z):=by
   intro j z hj;by_cases e:j=k
   .subst e;exact .inl ⟨rfl,F9⟩
   .exact .inr ⟨e,Fg⟩
  have g:∀j z,j≠k->μ j=some z->CG z b->CG (.slice o q r) b->False:=by
   intro j z hj c f t;rw[Sl]at t;rcases d with d|d|⟨T,d,J,_⟩
   .rw[d]at t;cases t
   .rw[d]at t;exact U j z b hj c f t
   .rw[d]at t;cases t;have:=(v j z b c f).1;omega
  rcases F j z hj with⟨e,rfl⟩|⟨e,em⟩<;>rcases F K L s with⟨O,e2⟩|⟨O,G⟩
  .rw[e,O]
  .exact(g K L O G M c).elim
  .subst e2;exact(g j z e em c M).elim
  .exact h.inj j K z L b em G c M
 .by_cases e:j=k
  .subst e;have:z=.slice o q r:=F9;subst this;rw[Sl]at c;rcases d with d|d|⟨T,d,J,E,S⟩
   .rw[d]at c;cases c
   .rw[d]at c;obtain⟨P,Q,R⟩:=v j _ b l (.inl c);exact⟨Kb P u,Q,R⟩
   .rw[d]at c;cases c;exact⟨E,λha=>by have:=h.bnd _ ha;omega,.inl S⟩
  .have s:μ j=some z:=Fg;obtain⟨P,Q,R⟩:=v j z b s c;exact⟨Kb P u,Q,R⟩
 .rcases Nn i w.heap.size with E|J
  .refine H i E (λe=> ?_);rcases(v k _ i l (.inl e)).2.2 with V|V
   .omega
   .exact hX V
  .omega
theorem b3c{B0:Nat}{X A:Nat->Prop}{w w':World}{μ:Mu}{own:List Blk}(h:Own B0 X A w μ own)(c:B0<=w.heap.size){k:Nat}{x y:Value}{bl:Blk}(d:μ k=some x)(e:∃a n m,x=.slice a n m)
 (f:∃a n m,y=.slice a n m) (g:FF y=FF x\/(∃b,FF y=some b/\w.heap.size<=b/\b<w'.heap.size/\B0<=b)) (i:w.heap.size<=w'.heap.size) (j:∀b,b<w.heap.size->FF x≠some b->w'.heap[b]?=w.heap[b]?)
 (l:w'.os=w.os) (o:w'.tape=w.tape) (p:w'.output=w.output)
 (q:Keeps' [k] w w' (held A μ) (held A (μ.set k y)) μ (μ.set k y)->DE w' (held A (μ.set k y)) (μ.set k y) y bl) (r:w.drawn<=w'.drawn:=by first|exact Jm _|exact Nat.le_succ _):
 After' [k] B0 X A w w' μ (μ.set k y) ((own.map (Blk.kill [k])).set k bl):=
 b15 h c d e f (.inr g) i j l o p q r
def Rm(own:List Blk)(sz:Nat):SV->Option (Nat×(Nat->List SV))
 |.con (.slice none 0 0)=>some (0,λ_=>[])
 |.sl a n f _=>if sz=a then some (n,f)else none
 |.osl k=>match own[k]? with
  |some (.row _ a n f _)=>if sz=a then some (n,f)else none
  |_=>none
 |_=>none
section
variable{P:Program}{w:World}{μ:Mu}{B0:Nat}{X A:Nat->Prop}{own ownN:List Blk}
theorem b0p(S:Own B0 X A w μ ownN)(U:∀(k:Nat) (bl:Blk),own[k]?=some bl->ownN[k]?=some bl){y:SV}{v:Value}{sz n:Nat}{f:Nat->List SV}(z:D w (held A μ) μ y v)(d:Rm own sz y=some (n,f)):
 ∃(a:Option Addr) (m:Nat) (news:List Value),v=.slice a n m/\n<=m/\m<=maxLen/\news.length=n*sz/\(∀v∈news,v.oneCell'=true)/\(∀i,i<n->(f i).length=sz/\(f i).all SV.pure=true)/\
  (0<n->∃E,a=some E/\E.spot=none/\∀(j:Nat) (u:Value),news[j]?=some u->w.cell? (E.add j)=some u)/\
  ∀(i j:Nat) (s:SV) (u:Value),i<n->(f i)[j]?=some s->news[i*sz+j]?=some u->D w (held A μ) μ s u:=by
 cases z with
 |con=>
  unfold Rm at d;split at d<;>first
   |(rename_i V;cases V;cases d;exact⟨none,0,[],rfl,Jm _,Fh,E6,E6,λi h=>absurd h (K3 _),λh=>absurd h (M1 _),λi j s u h=>absurd h (K3 _)⟩)
   |simp_all
 |sl a b o m g F hx W N hl G=>
  rename_i H q Y c;simp only[Rm]at d;split at d;rotate_left
  .cases d
  rename_i e;subst e;simp only[Ir]at d;obtain⟨rfl,rfl⟩:=d;have BP:∀(x:Nat) (u:Value),((List.range (q*sz)).map λx=>g (x/sz) (x%sz))[x]?=some u->x<q*sz/\u=g (x/sz) (x%sz):=by intro x u l;simp only[Iw]at l;obtain⟨y,z,rfl⟩:=l;rw[Jh]at z;obtain⟨O,e⟩:=z;simp at O e;subst e;exact⟨O,rfl⟩
  have split_:∀x,x<q*sz->x/sz<q/\x%sz<sz/\x/sz*sz+x%sz=x:=by
   intro x hx;have Z:0<sz:=by
    rcases Ku sz with I|I
    .subst I;omega
    .exact I
   refine⟨Nat.div_lt_of_lt_mul (by rwa[Mx]),Nz _ Z,?_⟩;have:=Nat.div_add_mod x sz;rw[Mx]at this;exact this
  refine⟨a,m,(List.range (q*sz)).map λx=>g (x/sz) (x%sz),rfl,F,hx,E6,?_,hl,?_,?_⟩
  .intro v J;obtain⟨x,cw,e⟩:=K7.1 J;obtain⟨r,t⟩:=BP x v (by rw[<-e];exact Je cw);obtain⟨B,K,_⟩:=split_ x r;rw[t];exact((N (Nat.lt_of_le_of_lt (Js _) B)).2.2.2 _ _ B K).2
  .intro C;obtain⟨rfl,hb,hr⟩:=N C;refine⟨_,rfl,rfl,λx u l=> ?_⟩;obtain⟨r,t⟩:=BP x u l;obtain⟨B,K,s3⟩:=split_ x r;have:=(hr.2 _ _ B K).1;rw[Lb,t,<-this,Lu,s3]
  .intro i j s u hi hs l;obtain⟨r,t⟩:=BP _ u l;have P:j<sz:=Gf;have L:(i*sz+j)/sz=i:=by rw[Mx,Nat.mul_add_div E4,Nat.div_eq_of_lt P];rfl
   have e2:(i*sz+j)%sz=j:=by rw[Mx,Nat.mul_add_mod,Nat.mod_eq_of_lt P]
   rw[L,e2]at t;rw[t];exact G i j s hi hs
 |osl h=>
  rename_i k M Q a0;simp only[Rm]at d;split at d;rotate_left
  .cases d
  rename_i T H q Y c hk;split at d;rotate_left
  .cases d
  rename_i e;subst e;simp only[Ir]at d;obtain⟨rfl,rfl⟩:=d;obtain⟨bl,R,b9⟩:=S.blk _ _ h;rw[U _ _ hk]at R;cases R;obtain⟨a,m,L,C,F,W,hl,bc⟩:=b9;cases L;rcases bc with rfl|⟨b,o,vs,c8,rfl,hh,ho,r,G⟩
  .obtain rfl:M=0:=E4;exact⟨_,0,[],rfl,Jm _,Fh,E6,E6,hl,λh=>absurd h (M1 _),λi j s u h=>absurd h (K3 _)⟩
  .have bi:M*sz<=Q*sz:=Ks _ C;refine⟨_,Q,(vs.drop o).take (M*sz),rfl,C,F,Ed,λv J=>r v (List.mem_of_mem_drop (Nk J)),hl,λ_=>⟨_,rfl,rfl,λj u l=> ?_⟩,λi j s u hi hs l=> ?_⟩
   .rw[Lb,SR hh];exact(HF l).2
   .exact G i j s u hi hs (by rw[Lu];exact(HF l).2)
 |_=>simp[Rm]at d
def Pi(d:Int):Option (Option SV)->Option Int
 |none=>some d
 |some (some (.int _ n))=>some n
 |_=>none
def c3w(P:Program)(_:List Blk)(T:TypeId)(x:SV)(lo hi mx:Option (Option SV)):Option (Prop×SV):=
 match P.underlying T with
 |some (.slice e)=>match x,mx with
  |.sl a n f c,none=>do
   let l<-Pi 0 lo
   let h<-Pi n hi
   some (CP P e=some a/\0<=l/\l<=h/\h<=n,.sl a (h-l).toNat (λj=>f (l.toNat+j)) (c.map λm=>m-l.toNat))
  |.sl a n f _,some m=>do
   let l<-Pi 0 lo
   let h<-Pi n hi
   let m<-Pi n (some m)
   if hi.isNone then none else
   some (CP P e=some a/\0<=l/\l<=h/\h<=m/\m<=n,.sl a (h-l).toNat (λj=>f (l.toNat+j)) (some (m-l).toNat))
  |_,_=>none
 |some (.array n e)=>match x,lo,hi,mx with
  |.rel a b f 0 0,none,none,none=>if CP P e=some a/\n=b/\n<=1000000 then some (True,.sl a n f (some n))else none
  |_,_,_,_=>none
 |_=>none
end
section
variable{P:Program}{w:World}{μ:Mu}{B0:Nat}{X A:Nat->Prop}{own ownN:List Blk}
def DO(w:World)(H:Nat->Prop)(μ:Mu)(o:Option (Option SV))(v:Option Value):Prop:=
 match o,v with
 |none,none=>True
 |some (some s),some u=>D w H μ s u
 |some none,some _=>True
 |_,_=>False
theorem d6k{H:Nat->Prop}{sz n:Nat}{f:Nat->List SV}{a:Option Addr}{b o m l h m':Nat}{g:Nat->Nat->Value}(_:n<=m)(hx:m<=maxLen)
 (k:0<n->a=some ⟨b,o,none⟩/\¬H b/\Vo w b o sz n g) (q:∀i,i<n->(f i).length=sz/\(f i).all SV.pure=true) (r:∀(i j:Nat) (s:SV),i<n->(f i)[j]?=some s->D w H μ s (g i j))
 (h1:l<=h) (h2:h<=n) (h3:h<=m') (h4:m'<=m) {c:Option Nat} (t:c=none\/c=some (m'-l)):
 D w H μ (.sl sz (h-l) (λj=>f (l+j)) c) (.slice (if m'=l then a else a.map (·.add (l*sz))) (h-l) (m'-l)):=by
 refine .sl _ b (o+l*sz) (m'-l) (λi j=>g (l+i) j) E4 E4 t (λhn=> ?_) (λi d=>q _ E4) (λi j s d hs=>r _ _ _ E4 hs);obtain⟨rfl,u,e⟩:=k E4;rw[Jg E4];refine⟨by simp[Lb],u,e.1,λi j d v=> ?_⟩;have:=e.2 (l+i) j E4 v;rwa[show o+(l+i)*sz+j=o+l*sz+i*sz+j from Gg]at this
theorem c3x{H:Nat->Prop}{T:TypeId}{x s:SV}{v:Value}{lo hi mx:Option (Option SV)}{A B vm:Option Value}{C:Prop}(hx:D w H μ x v)(K:DO w H μ lo A)(L:DO w H μ hi B)(M:DO w H μ mx vm)
 (i:c3w P own T x lo hi mx=some (C,s)) (W:C):∃r,(Instr.sliceAt T v A B vm).run P w=.ok r w/\D w H μ s r:=by
 have j:∀{d:Int} {o:Option (Option SV)} {u:Option Value} {n:Int},DO w H μ o u->Pi d o=some n->(u=none/\o=none/\n=d)\/∃k,u=some (.int k n)/\o.isNone=false:=by
  intro d o u n q z;unfold Pi at z;split at z
  .cases z;cases u with
   |none=>exact .inl ⟨rfl,rfl,rfl⟩
   |some _=>simp[DO]at q
  .cases z;cases u with
   |none=>simp[DO]at q
   |some u=>simp only[DO]at q;cases q;exact .inr ⟨_,rfl,rfl⟩
  .cases z
 unfold c3w at i;split at i
 .rename_i e hT;have kg:P.elem T=e:=Gb;split at i
  .rename_i X n f c;simp only[J3,Ir]at i;obtain⟨l,N,h,O,rfl,rfl⟩:=i;obtain⟨y,h0,h1,h2⟩:=W;simp only[CP,Jk]at y;obtain⟨t,E,rfl⟩:=y;cases vm with
   |some _=>simp[DO]at M
   |none=>
   cases hx with
   |sl a b o m g Q R G S F q=>
    have U:(Instr.sliceBounds true n m A B none).run P w=.ok (l.toNat,h.toNat,m) w:=by
     rcases j K N with⟨rfl,_,rfl⟩|⟨I,rfl,_⟩<;>rcases j L O with⟨rfl,_,rfl⟩|⟨J,rfl,_⟩
     .simp[Instr.sliceBounds]
     .simp[Instr.sliceBounds,Lv w J h m _ E4 E4]
     .simp[Instr.sliceBounds,Lv w I l n _ E4 E4]
     .have:=Lv (P:=P) w I l h.toNat .sliceB E4 E4;simp[Instr.sliceBounds,Lv w J h m _ E4 E4,this]
    refine⟨.slice (if m=l.toNat then a else a.map (·.add (l.toNat*t.size))) (h.toNat-l.toNat) (m-l.toNat),?_,?_⟩;rotate_left
    .have:=d6k (w:=w) (H:=H) (μ:=μ) (l:=l.toNat) (h:=h.toNat) (m':=m) Q R S F q E4 E4 E4 (Jm _) (c:=c.map λm=>m-l.toNat) (by rcases G with rfl|rfl;exact .inl rfl;exact .inr rfl);rw[show (h-l).toNat=h.toNat-l.toNat from E4];exact this
    .simp only[Instr.sliceAt,Is,Kf hT,Instr.slice,U,HQ E]
  .rename_i X n f c m;simp only[J3]at i;obtain⟨l,N,h,O,mm,mn,i⟩:=i;split at i
   .cases i
   rename_i V;simp only[Ir]at i;obtain⟨rfl,rfl⟩:=i;obtain⟨y,h0,h1,h2,h3⟩:=W;simp only[CP,Jk]at y;obtain⟨t,E,rfl⟩:=y;cases hx with
   |sl a b o Y g Q R G S F q=>
    have U:(Instr.sliceBounds true n Y A B vm).run P w=.ok (l.toNat,h.toNat,mm.toNat) w:=by
     rcases j M mn with⟨rfl,e,rfl⟩|⟨km,rfl,_⟩
     .cases e
     rcases j L O with⟨rfl,e,rfl⟩|⟨J,rfl,_⟩
     .simp[e]at V
     have Z:=Lv (P:=P) w km mm Y .slice3Acap E4 E4;have e2:=Lv (P:=P) w J h mm.toNat .slice3B E4 E4;rcases j K N with⟨rfl,_,rfl⟩|⟨I,rfl,_⟩
     .simp[Instr.sliceBounds,Z,e2]
     .have e3:=Lv (P:=P) w I l h.toNat .slice3C E4 E4;simp[Instr.sliceBounds,Z,e2,e3]
    refine⟨.slice (if mm.toNat=l.toNat then a else a.map (·.add (l.toNat*t.size))) (h.toNat-l.toNat) (mm.toNat-l.toNat),?_,?_⟩;rotate_left
    .have:=d6k (w:=w) (H:=H) (μ:=μ) (l:=l.toNat) (h:=h.toNat) (m':=mm.toNat) Q R S F q E4 E4 E4 E4 (c:=some (mm-l).toNat) (.inr (by congr 1;omega));rw[show (h-l).toNat=h.toNat-l.toNat from E4];exact this
    .simp only[Instr.sliceAt,Is,Kf hT,Instr.slice,U,HQ E]
  .cases i
 .rename_i n e hT;have kg:P.elem T=e:=Gb;have za:P.arrayLen T=n:=by simp[Program.arrayLen,hT]
  split at i
  .rename_i X n' f;split at i;rotate_left
   .cases i
   rename_i G;obtain⟨y,rfl,hn⟩:=G;simp only[Ir]at i;obtain⟨rfl,rfl⟩:=i;simp only[CP,Jk]at y;obtain⟨t,E,rfl⟩:=y;cases hx with
   |rel b o g hi z hr F q=>
    cases A<;>cases B<;>cases vm<;>simp[DO]at K L M
    refine⟨.slice (some ⟨b,o,none⟩) n n,?_,.sl _ b o n g (Jm _) Fa (.inr rfl) (λ_=>⟨rfl,z,hr⟩) F q⟩;simp[Instr.sliceAt,Kf hT,Instr.sureAddr,Instr.sliceBounds,HQ E,Addr.add_zero']
  .cases i
 .cases i
def PH(c:Option Nat)(n:Nat):Option Nat:=c.bind λa=>if n<=a then some a else none
theorem c1m{c:Option Nat}{n m:Nat}(h:c=none\/c=some m):PH c n=none\/PH c n=some m:=by
 rcases h with rfl|rfl
 .exact .inl rfl
 .unfold PH;simp only[M0];split
  .exact .inr rfl
  .exact .inl rfl
theorem d6w{c:Option Nat}{n m:Nat}(h:c=none\/c=some m)(hm:m<n):PH c n=none:=by
 rcases h with rfl|rfl
 .rfl
 .unfold PH;simp only[M0];rw[Jg E4]
def b4n(own:List Blk)(e:TypeId)(a:TypeInfo)(m:Nat)(g:Nat->List SV):SV->Option (Prop×Nat×List Blk×Bool)
 |.con (.slice none 0 0)=>some (m<=9223372036854775807/\m*a.bytes<=140737488355328,own.length,own++[.row e a.size m g none],true)
 |.sl b n f c=>if b=a.size then
  some ((match c with|some c=>n=c|none=>False)/\(n=0\/0<m)/\n+m<=9223372036854775807/\(n+m)*a.bytes<=140737488355328,own.length,own++[.row e a.size (n+m) (λj=>if j<n then f j else g (j-n)) none],true)
  else none
 |.osl k=>match own[k]? with
  |some (.row d b n f c)=>if d=e/\b=a.size then
   some (n+m<=9223372036854775807/\(n+m)*a.bytes<=140737488355328,k,(own.map (Blk.kill [k])).set k (.row e b (n+m) (λj=>if j<n then f j else g (j-n)) (PH c (n+m))),false)
   else none
  |_=>none
 |_=>none
def TG(P:Program)(own:List Blk)(T:TypeId)(x y:SV):Option (Prop×Nat×List Blk×Bool):=
 (Oe P T).bind λe=>(P.info? e).bind λa=>(Oz P e).bind λz=>(Rm own a.size y).bind λb=>
   if z.length=a.size/\0<a.size/\z.all SV.isCell then b4n own e a b.1 b.2 x else none
theorem Si{b n:Nat}{a:Option Addr}{c:Nat}{news:List Value}(hl:news.length=n*b)(h:0<n->∃d,a=some d/\d.spot=none/\∀(j:Nat) (u:Value),news[j]?=some u->w.cell? (d.add j)=some u):
 (Builtin.firstCells b n (.slice a n c)).run P w=.ok news.toArray w:=by
 rcases Ku n with e|e
 .subst e;have:news=[]:=La Eh;subst this;cases a with
  |none=>simp[Builtin.firstCells]
  |some d=>simp[Builtin.firstCells,loadCells,loadCellsFrom]
 .obtain⟨d,rfl,_,f⟩:=h e;simp only[Builtin.firstCells];exact b2b d news (n*b) hl f
theorem VL{a:Value}(d:∀v∈a.cells.toList,v.oneCell'=true)(n:Nat):∀v∈(Builtin.zeroCells a.cells n).toList,v.oneCell'=true:=by
 intro v c;simp only[Builtin.zeroCells,Array.toList_map,Jx]at c;obtain⟨i,hi,rfl⟩:=c;have e:i<n*a.cells.size:=Ez;have f:0<a.cells.size:=by
  rcases Ku a.cells.size with b|b
  .rw[b]at e;omega
  .exact b
 have g:i%a.cells.size<a.cells.size:=Nz _ f;rw[Lx a.cells _ g];exact d _ E6
theorem b01{T ty e:TypeId}{b:TypeInfo}{f:Value}(g:P.underlying T=some (.slice e))(hi:P.info? e=some b)(i:b.zero=some f)
 {a a':Option Addr} {n m k c:Nat} {olds news:List Value} (j:(Builtin.firstCells b.size n (.slice a n c)).run P w.drew=.ok olds.toArray w.drew) (l:(Builtin.firstCells b.size m (.slice a' m k)).run P w.drew=.ok news.toArray w.drew)
 (o:c<n+m) (ri:n+m<=9223372036854775807) (q:(n+m)*b.bytes<=140737488355328):
 (Builtin.append_ #[T,T] ty #[.slice a n c,.slice a' m k]).run P w=.ok (.slice (some ⟨w.heap.size,0,none⟩) (n+m) (grownCap w (n+m) c e))
   (w.drew.alloc (.cells (olds++news++(Builtin.zeroCells f.cells (grownCap w (n+m) c e-(n+m))).toList).toArray e)):=by
 have r:¬(n+m<=c):=E4;have d:¬(9223372036854775807<((n:Int)+(m:Int))):=E4;have h48:=growslice_fits o q;have s:¬(281474976710656<Builtin.nextslicecap (n+m) c*b.bytes):=E4;simp[Builtin.append_,Kf g,sizeOf,typeInfo,zeroValue,hi,i,Builtin.lenOf,r,d,s,Question.forced,j,l,newRow,grownCap];congr 1;congr 1;apply Array.ext';simp
theorem b8r{T ty e:TypeId}{a:TypeInfo}(f:P.underlying T=some (.slice e))(hi:P.info? e=some a){d:TypeId}
 {b o:Nat} {vs:List Value} {a':Option Addr} {n m k c:Nat} {news:List Value} (g:w.heap[b]?=some (.cells vs.toArray d (0,0))) (i:(Builtin.firstCells a.size m (.slice a' m k)).run P w=.ok news.toArray w)
 (j:n+m<=c) (hl:o+n*a.size+news.length<=vs.length) (l:∀u∈news,u.oneCell'=true):
 (Builtin.append_ #[T,T] ty #[.slice (some ⟨b,o,none⟩) n c,.slice a' m k]).run P w=.ok (.slice (some ⟨b,o,none⟩) (n+m) c) (putRow w b (over vs (o+n*a.size) news) d):=by
 have hs:=XS (P:=P) b (o+n*a.size) d news w vs 0 g E4 l;rw[Mk]at hs;simp[Builtin.append_,Kf f,sizeOf,typeInfo,hi,Builtin.lenOf,j,i,Lb,hs]
theorem b04{T ty e:TypeId}{b:TypeInfo}(c:P.underlying T=some (.slice e))(hi:P.info? e=some b){a a':Option Addr}{k:Nat}(d:(Builtin.firstCells b.size 0 (.slice a' 0 k)).run P w=.ok #[] w):
 (Builtin.append_ #[T,T] ty #[.slice a 0 0,.slice a' 0 k]).run P w=.ok (.slice a 0 0) w:=by
 cases a<;>simp[Builtin.append_,Kf c,sizeOf,typeInfo,hi,Builtin.lenOf,d,storeCells]
theorem c0p(h:Own B0 X A w μ ownN){k:Nat}{e:TypeId}{sz:Nat}{f:Nat->List SV}(u:μ k=none)(v:ownN[k]?=some (.row e sz 0 f none)){a:Option Addr}:
 Own B0 X A w (μ.set k (.slice a 0 0)) ownN/\Keeps w w (held A μ) (held A (μ.set k (.slice a 0 0))) μ (μ.set k (.slice a 0 0)):=by
 have n:Keeps w w (held A μ) (held A (μ.set k (.slice a 0 0))) μ (μ.set k (.slice a 0 0)):=by
  refine⟨Jm _,λ_ _ _=>rfl,λb o g=> ?_,λj y c=> ?_⟩
  .rcases g with g|⟨j,y,hj,c⟩
   .exact .inl g
   .unfold Mu.set at hj;split at hj
    .cases hj;exact absurd c b9b
    .exact .inr ⟨j,y,hj,c⟩
  .unfold Mu.set;split
   .subst_vars;rw[u]at c;cases c
   .exact c
 have d:∀j y b,Mu.set μ k (.slice a 0 0) j=some y->CG y b->μ j=some y:=by
  intro j y b hj c;unfold Mu.set at hj;split at hj
  .cases hj;exact absurd c b9b
  .exact hj
 refine⟨⟨λj y hj=> ?_,λj q y r b hj l c s=>h.inj j q y r b (d j y b hj c) (d q r b l s) c s,λj y b hj c=>h.rng j y b (d j y b hj c) c,h.bnd⟩,n⟩;by_cases t:j=k
 .subst t;have:y=.slice a 0 0:=F9;subst this;exact⟨_,v,a,0,rfl,Jm _,Fh,.inl rfl,λi x=>absurd x (K3 _),.inl rfl⟩
 .have l:μ j=some y:=by simpa[Mu.set,t]using hj
  obtain⟨m,z,o⟩:=h.blk j y l;exact⟨m,z,o.keep n (λ_ _=>rfl)⟩
theorem Own.more{own':List Blk}(h:Own B0 X A w μ own)(hs:∀(k:Nat) (bl:Blk),own[k]?=some bl->own'[k]?=some bl):Own B0 X A w μ own':=
 ⟨λk x hx=>by obtain⟨bl,e,a⟩:=h.blk k x hx;exact⟨bl,hs _ _ e,a⟩,h.inj,h.rng,h.bnd⟩
theorem Vt{own:List Blk}{bl:Blk}(k:Nat)(b:Blk)(h:own[k]?=some b):(own++[bl])[k]?=some b:=by rw[Jr (Jh.1 h).1];exact h
theorem b2k{w':World}{H':Nat->Prop}{μ':Mu}{sz n m:Nat}{f g:Nat->List SV}{us:List Value}{o:Nat}(a:∀i,i<n->(f i).length=sz/\(f i).all SV.pure=true)(b:∀i,i<m->(g i).length=sz/\(g i).all SV.pure=true)
 (d:∀(i j:Nat) (s:SV) (v:Value),i<n->(f i)[j]?=some s->us[o+i*sz+j]?=some v->D w' H' μ' s v) (e:∀(i j:Nat) (s:SV) (v:Value),i<m->(g i)[j]?=some s->us[o+(n+i)*sz+j]?=some v->D w' H' μ' s v):
 (∀i,i<n+m->((λj=>if j<n then f j else g (j-n)) i).length=sz/\((λj=>if j<n then f j else g (j-n)) i).all SV.pure=true)/\
   ∀(i j:Nat) (s:SV) (v:Value),i<n+m->((λj=>if j<n then f j else g (j-n)) i)[j]?=some s->us[o+i*sz+j]?=some v->D w' H' μ' s v:=by
 refine⟨λi k=> ?_,λi j s v k hs c=> ?_⟩
 .show (if i<n then f i else g (i-n)).length=sz/\(if i<n then f i else g (i-n)).all SV.pure=true;split
  .exact a i ‹_›
  .exact b _ E4
 .replace hs:(if i<n then f i else g (i-n))[j]?=some s:=hs;split at hs
  .exact d i j s v ‹_› hs c
  .exact e (i-n) j s v E4 hs (by rw[show n+(i-n)=i from E4];exact c)
end
section
variable{P:Program}{w:World}{μ:Mu}{B0:Nat}{X A:Nat->Prop}{own ownN:List Blk}
theorem Vq{α:Type}{a b c:List α}{i:Nat}{v:α}(h:(a++b++c)[i]?=some v):(i<a.length->a[i]?=some v)/\(a.length<=i->i<a.length+b.length->b[i-a.length]?=some v):=by
 refine⟨λd=> ?_,λe h2=> ?_⟩
 .rwa[N1,Jr d]at h
 .rwa[N1,Jw e,Jr E4]at h
theorem MA{i j n sz:Nat}(hi:i<n)(hj:j<sz):i*sz+j<n*sz:=by
 have:i*sz+sz<=n*sz:=by rw[<-Mw];exact Ks _ hi
 omega
theorem c1z(I:Own B0 X A w μ own)(J:B0<=w.heap.size)(d9:μ own.length=none){T ty:TypeId}{x y:SV}{v u:Value}{R:Prop}{k:Nat}{own':List Blk}{M:Bool}(hx:D w (held A μ) μ x v)(hy:D w (held A μ) μ y u)
 (B:TG P own T x y=some (R,k,own',M)) (hp:R):
 ∃r w' μ',(Builtin.append_ #[T,T] ty #[v,u]).run P w=.ok r w'/\D w' (held A μ') μ' (.osl k) r/\
  ((M=true/\After B0 X A w w' μ μ' own'/\∀j,j≠own.length->μ' j=μ j)\/(M=false/\After' [k] B0 X A w w' μ μ' own'/\∀j,j≠k->μ' j=μ j)):=by
 simp only[TG,Jn]at B;obtain⟨e,hT,d,hi,z,hz,⟨m,g⟩,S0,B⟩:=B;have ht:=QT hT;split at B;rotate_left
 .cases B
 rename_i qi;obtain⟨su,ff,qi⟩:=qi;obtain⟨inf',F,b8,m9,rfl,pd⟩:=SG (w:=w) (H:=held A μ) (μ:=μ) hz;rw[hi]at b8;cases b8;have nh:F.cells.size=d.size:=Fj;have ft:∀v∈F.cells.toList,v.oneCell'=true:=SN pd qi;obtain⟨a',O,news,rfl,t5,W0,gw,S,ju,zh,wm⟩:=b0p I (λ_ _ h=>h) hy S0;have z9:(Builtin.firstCells d.size m (.slice a' m O)).run P w=.ok news.toArray w:=Si gw zh;have fk:(Builtin.firstCells d.size m (.slice a' m O)).run P w.drew=.ok news.toArray w.drew:=Si gw zh;unfold b4n at B;split at B
 ·-- nil
  simp only[Ir]at B;obtain⟨rfl,rfl,rfl,rfl⟩:=B;obtain⟨ri,G⟩:=hp;cases hx;have U:Own B0 X A w μ (own++[.row e d.size m g none]):=I.more Vt;have V:(own++[Blk.row e d.size m g none])[own.length]?=some (.row e d.size m g none):=E6;rcases Ku m with K|K
  .subst K;obtain rfl:news=[]:=La Gh;obtain⟨o1,o2⟩:=c0p U d9 V (a:=none);exact D8
  .have hr:=b01 (P:=P) (w:=w) (ty:=ty) ht hi m9 (a:=none) (a':=a') (n:=0) (m:=m) (k:=O) (c:=0) (olds:=[]) (news:=news) (by simp[Builtin.firstCells]) fk E4 E4 (by simpa using G);simp only[Lg,Nh]at hr;have zi:=U.drew;have W:=grownCap_ge w m 0 e;have Y:=Ns w m 0 e Fa;obtain⟨o1,o2⟩:=Tg (x:=.slice (some ⟨w.heap.size,0,none⟩) m (grownCap w m 0 e)) zi J d9 V (.cells (news++(Builtin.zeroCells F.cells (grownCap w m 0 e-m)).toList).toArray e) (λb G=>(YG E4).1 G) (λμ' _ E=>by
    refine⟨_,_,rfl,W,Y,.inl rfl,ju,.inr ⟨w.heap.size,0,_,E4,rfl,N9 w.drew _,?_,λv l=> ?_,λi j s v b8 hs l=> ?_⟩⟩
    .simp only[Jc,gw,Lq,Ny,nh,<-Mn];rw[show m+(grownCap w m 0 e-m)=grownCap w m 0 e from E4];exact C6
    .rcases Ka.1 l with l|l
     .exact S v l
     .exact VL ft _ v l
    .have hj:j<d.size:=G1;rw[Lg,Jr (by rw[gw];exact MA b8 hj)]at l;exact((wm i j s v b8 hs l).keep Keeps.drew).keep E)
   refine⟨_,_,_,hr,.osl Em,.inl ⟨rfl,⟨o1,Fr.drew.trans (Fr.alloc _ J),?_⟩,λj hj=>Es⟩⟩;exact Ct
 ·-- a view without room
  rename_i sz n f c;split at B;rotate_left
  .cases B
  rename_i bn;subst bn;simp only[Ir]at B;obtain⟨rfl,rfl,rfl,rfl⟩:=B;obtain⟨Q,fq,ri,G⟩:=hp;obtain⟨c,rfl⟩:∃O,c=some O:=by
   cases c with
   |none=>exact Q.elim
   |some c=>exact⟨c,rfl⟩
  replace Q:n=c:=Q;obtain⟨a,t,olds,rfl,hnc0,hcx0,jt,ve,dq,kr,zj⟩:=b0p I (λ_ _ h=>h) hx (sz:=d.size) (n:=n) (f:=f) (by simp[Rm]);have zk:t=n:=by
   cases hx with
   |sl a b o m g hm hx Z b7 hl hd=>
    rcases Z with Z|Z
    .cases Z
    .cases Z;exact Q.symm
  subst zk;have U:Own B0 X A w μ (own++[.row e d.size (t+m) (λj=>if j<t then f j else g (j-t)) none]):=I.more Vt;have V:(own++[Blk.row e d.size (t+m) (λj=>if j<t then f j else g (j-t)) none])[own.length]?=some (.row e d.size (t+m) (λj=>if j<t then f j else g (j-t)) none):=E6;rcases Ku m with K|K
  .subst K;obtain rfl:t=0:=E4;obtain rfl:news=[]:=La Gh;obtain⟨o1,o2⟩:=c0p U d9 V (a:=a);exact D8
  .have zm:(Builtin.firstCells d.size t (.slice a t t)).run P w.drew=.ok olds.toArray w.drew:=Si jt kr;have hr:=b01 (P:=P) (w:=w) (ty:=ty) ht hi m9 (olds:=olds) (news:=news) zm fk E4 ri G;have zi:=U.drew;have W:=grownCap_ge w (t+m) t e;have Y:=Ns w (t+m) t e Fa;obtain⟨o1,o2⟩:=Tg (x:=.slice (some ⟨w.heap.size,0,none⟩) (t+m) (grownCap w (t+m) t e)) zi J d9 V (.cells (olds++news++(Builtin.zeroCells F.cells (grownCap w (t+m) t e-(t+m))).toList).toArray e) (λb G=>(YG E4).1 G) (λμ' _ E=>by
    have L:=b2k (w':=w.drew.alloc (.cells (olds++news++(Builtin.zeroCells F.cells (grownCap w (t+m) t e-(t+m))).toList).toArray e)) (H':=held A μ') (μ':=μ') (o:=0) (us:=olds++news++(Builtin.zeroCells F.cells (grownCap w (t+m) t e-(t+m))).toList) dq ju
     (λi j s v b8 hs l=>by have hj:j<d.size:=Gi;have N:=MA b8 hj;have gp:=(Vq l).1 Fn;rw[Lg]at gp;exact((zj i j s v b8 hs gp).keep Keeps.drew).keep E)
     (λi j s v b8 hs l=>by have hj:j<d.size:=G1;have N:=MA b8 hj;have mf:(t+i)*d.size=t*d.size+i*d.size:=Mn _ _ _;have:=(Vq l).2 Fn (by rw[jt,gw];omega);rw[jt,show 0+(t+i)*d.size+j-t*d.size=i*d.size+j from E4]at this;exact((wm i j s v b8 hs this).keep Keeps.drew).keep E)
    refine⟨_,_,rfl,W,Y,.inl rfl,L.1,.inr ⟨w.heap.size,0,_,E4,rfl,N9 w.drew _,?_,λv l=> ?_,L.2⟩⟩
    .simp only[Jc,jt,gw,Lq,Ny,nh,<-Mn];rw[show t+m+(grownCap w (t+m) t e-(t+m))=grownCap w (t+m) t e from E4];exact C6
    .rcases Ka.1 l with l|l
     .rcases Ka.1 l with l|l
      .exact ve v l
      .exact S v l
     .exact VL ft _ v l)
   refine⟨_,_,_,hr,.osl Em,.inl ⟨rfl,⟨o1,Fr.drew.trans (Fr.alloc _ J),?_⟩,λj hj=>Es⟩⟩;exact Ct
 .rename_i k0;split at B;rotate_left
  .cases B
  rename_i C sz n f c hk;split at B;rotate_left
  .cases B
  rename_i rn;obtain⟨rfl,rfl⟩:=rn;simp only[Ir]at B;obtain⟨rfl,rfl,rfl,rfl⟩:=B;obtain⟨ri,G⟩:=hp;cases hx with
  |osl h=>
   obtain⟨bl,e1,b9⟩:=I.blk _ _ h;rw[hk]at e1;cases e1;obtain⟨a,q,e2,Q,W1,g8,dq,bc⟩:=b9;cases e2;rename_i q a;have grow:q<n+m->∀(olds:List Value),olds.length=n*d.size->(∀v∈olds,v.oneCell'=true)->(Builtin.firstCells d.size n (.slice a n q)).run P w.drew=.ok olds.toArray w.drew->
    (∀(i j:Nat) (s:SV) (v:Value),i<n->(f i)[j]?=some s->olds[i*d.size+j]?=some v->D w (held A μ) μ s v)->
    ∃r w' μ',(Builtin.append_ #[T,T] ty #[.slice a n q,.slice a' m O]).run P w=.ok r w'/\D w' (held A μ') μ' (.osl k0) r/\
     ((false=true/\After B0 X A w w' μ μ' ((own.map (Blk.kill [k0])).set k0 (.row C d.size (n+m) (λj=>if j<n then f j else g (j-n)) (PH c (n+m))))/\∀j,j≠own.length->μ' j=μ j)\/
       (false=false/\After' [k0] B0 X A w w' μ μ' ((own.map (Blk.kill [k0])).set k0 (.row C d.size (n+m) (λj=>if j<n then f j else g (j-n)) (PH c (n+m))))/\∀j,j≠k0->μ' j=μ j)):=by
    intro hg olds jt ve zm zj;have hr:=b01 (P:=P) (w:=w) (ty:=ty) ht hi m9 (olds:=olds) (news:=news) zm fk hg ri G;have W:=grownCap_ge w (n+m) q C;have Y:=Ns w (n+m) q C Fa;have ha:=b3c (w':=w.drew.alloc (.cells (olds++news++(Builtin.zeroCells F.cells (grownCap w (n+m) q C-(n+m))).toList).toArray C)) (y:=.slice (some ⟨w.heap.size,0,none⟩) (n+m) (grownCap w (n+m) q C))
     (bl:=.row C d.size (n+m) (λj=>if j<n then f j else g (j-n)) (PH c (n+m))) I J h ⟨_,_,_,rfl⟩ ⟨_,_,_,rfl⟩
     (.inr ⟨w.heap.size,OP E4,Jm _,E6,J⟩) E6 (λb gu _=>N5 w.drew _ b gu) rfl rfl rfl (λE=>by
       have L:=b2k (w':=w.drew.alloc (.cells (olds++news++(Builtin.zeroCells F.cells (grownCap w (n+m) q C-(n+m))).toList).toArray C))
        (H':=held A (μ.set k0 (.slice (some ⟨w.heap.size,0,none⟩) (n+m) (grownCap w (n+m) q C)))) (μ':=μ.set k0 (.slice (some ⟨w.heap.size,0,none⟩) (n+m) (grownCap w (n+m) q C))) (o:=0) (us:=olds++news++(Builtin.zeroCells F.cells (grownCap w (n+m) q C-(n+m))).toList) dq ju
        (λi j s v b8 hs l=>by have hj:j<d.size:=Gi;have N:=MA b8 hj;have gp:=(Vq l).1 Fn;rw[Lg]at gp;exact KF E (zj i j s v b8 hs gp) (Jp.1 (dq i b8).2 s (Jj hs)))
        (λi j s v b8 hs l=>by have hj:j<d.size:=G1;have N:=MA b8 hj;have mf:(n+i)*d.size=n*d.size+i*d.size:=Mn _ _ _;have:=(Vq l).2 Fn (by rw[jt,gw];omega);rw[jt,show 0+(n+i)*d.size+j-n*d.size=i*d.size+j from E4]at this;exact KF E (wm i j s v b8 hs this) (Jp.1 (ju i b8).2 s (Jj hs)))
       refine⟨_,_,rfl,W,Y,.inl (d6w g8 E4),L.1,.inr ⟨w.heap.size,0,_,E4,rfl,N9 w.drew _,?_,λv l=> ?_,L.2⟩⟩
       .simp only[Jc,jt,gw,Lq,Ny,nh,<-Mn];rw[show n+m+(grownCap w (n+m) q C-(n+m))=grownCap w (n+m) q C from E4];exact C6
       .rcases Ka.1 l with l|l
        .rcases Ka.1 l with l|l
         .exact ve v l
         .exact S v l
        .exact VL ft _ v l)
    exact D9
   rcases bc with rfl|⟨b,o,vs,c8,rfl,hh,ho,h1,hd⟩
   .obtain rfl:n=0:=E4;rcases Ku m with K|K
    .subst K;obtain rfl:news=[]:=La Gh;have ha:=b3c (w':=w) (y:=.slice a 0 0) (bl:=.row C d.size (0+0) (λj=>if j<0 then f j else g (j-0)) (PH c (0+0))) I J h ⟨_,_,_,rfl⟩ ⟨_,_,_,rfl⟩ (.inl rfl) (Jm _) (λ_ _ _=>rfl) rfl rfl rfl
      (λ_=>⟨a,0,rfl,Jm _,Fh,c1m g8,λi hi=>absurd hi (K3 _),.inl rfl⟩)
     exact⟨_,w,_,b04 ht hi z9,.osl Em,.inr ⟨rfl,ha,λj hj=>Es⟩⟩
    .exact grow E4 [] E6 E6 (Si (w:=w.drew) E6 (λh=>absurd h (M1 _))) (λi j s v b8=>absurd b8 (K3 _))
   .by_cases qj:n+m<=q
    .have bi:(n+m)*d.size<=q*d.size:=Ks _ qj;have zn:(n+m)*d.size=n*d.size+m*d.size:=Mn _ _ _;have hr:=b8r (P:=P) (ty:=ty) (o:=o) ht hi hh z9 qj Gj S;have N:=PY hh;have ha:=b3c (w':=putRow w b (over vs (o+n*d.size) news) C) (y:=.slice (some ⟨b,o,none⟩) (n+m) q)
      (bl:=.row C d.size (n+m) (λj=>if j<n then f j else g (j-n)) (PH c (n+m))) I J h ⟨_,_,_,rfl⟩ ⟨_,_,_,rfl⟩ (.inl ((OP c8).trans (OP c8).symm)) H0 (λi _ ba=>b0e (λe=>ba (by subst e;exact OP c8))) rfl rfl rfl (λE=>by
        have L:=b2k (w':=putRow w b (over vs (o+n*d.size) news) C) (H':=held A (μ.set k0 (.slice (some ⟨b,o,none⟩) (n+m) q))) (μ':=μ.set k0 (.slice (some ⟨b,o,none⟩) (n+m) q)) (o:=o)
         (us:=over vs (o+n*d.size) news) dq ju
         (λi j s v b8 hs l=>by have hj:j<d.size:=Gi;have N:=MA b8 hj;rw[MX _ _ _ _ Gj,Jg E4]at l;exact KF E (hd i j s v b8 hs l) (Jp.1 (dq i b8).2 s (Jj hs)))
         (λi j s v b8 hs l=>by have hj:j<d.size:=G1;have N:=MA b8 hj;have mf:(n+i)*d.size=n*d.size+i*d.size:=Mn _ _ _;rw[MX _ _ _ _ Gj,Jf Gj,show o+(n+i)*d.size+j-(o+n*d.size)=i*d.size+j from E4]at l;exact KF E (wm i j s v b8 hs l) (Jp.1 (ju i b8).2 s (Jj hs)))
        exact⟨_,_,rfl,qj,W1,c1m g8,L.1,.inr ⟨b,o,_,c8,rfl,b07 N,H2,TL _ _ _ h1 S,L.2⟩⟩)
     exact D9
    .have bi:n*d.size<=q*d.size:=Ks _ Q;refine grow E4 ((vs.drop o).take (n*d.size)) Ed (λv l=>h1 v (List.mem_of_mem_drop (Nk l))) ?_ (λi j s v b8 hs l=>hd i j s v b8 hs (by rw[Lu];exact(HF l).2));refine Si (w:=w.drew) Ed (λ_=>⟨_,rfl,rfl,λj u hu=> ?_⟩);rw[Lb,SR (w:=w.drew) hh];exact(HF hu).2
 .cases B
def b5q(P:Program)(own:List Blk)(T:TypeId)(k:Nat)(lo hi:Option (Option SV)):Option (Prop×List Blk):=
 (Oe P T).bind λe=>match own[k]? with
 |some (.row b a n f c)=>(Pi 0 lo).bind λl=>(Pi n hi).bind λh=>
  if CP P e=some a then some (0<=l/\l<=h/\h<=n,(own.map (Blk.kill [k])).set k (.row b a (h-l).toNat (λj=>f (l.toNat+j)) (c.map λm=>m-l.toNat)))else none
 |_=>none
theorem c0i(G:Own B0 X A w μ own)(W:B0<=w.heap.size){T:TypeId}{k:Nat}{v:Value}{lo hi:Option (Option SV)}{E F:Option Value}{z:Prop}{own':List Blk}(hx:D w (held A μ) μ (.osl k) v)
 (Y:DO w (held A μ) μ lo E) (Z:DO w (held A μ) μ hi F) (t:b5q P own T k lo hi=some (z,own')) (hp:z):
 ∃r x,(Instr.sliceAt T v E F none).run P w=.ok r w/\D w (held A x) x (.osl k) r/\After' [k] B0 X A w w μ x own'/\own'.length=own.length/\k<own.length/\∀j,j≠k->x j=μ j:=by
 have B:∀{d:Int} {o:Option (Option SV)} {u:Option Value} {n:Int},DO w (held A μ) μ o u->Pi d o=some n->(u=none/\o=none/\n=d)\/∃k,u=some (.int k n)/\o.isNone=false:=by
  intro d o u n y C;unfold Pi at C;split at C
  .cases C;cases u with
   |none=>exact .inl ⟨rfl,rfl,rfl⟩
   |some _=>simp[DO]at y
  .cases C;cases u with
   |none=>simp[DO]at y
   |some u=>simp only[DO]at y;cases y;exact .inr ⟨_,rfl,rfl⟩
  .cases C
 simp only[b5q,Jn]at t;obtain⟨e,hT,t⟩:=t;have H:=QT hT;have kg:P.elem T=e:=by simp[Program.elem,H]
 split at t;rotate_left
 .cases t
 rename_i e' sz n f c I;simp only[Jn]at t;obtain⟨l,md,h,v7,t⟩:=t;split at t;rotate_left
 .cases t
 rename_i J;simp only[Ir]at t;obtain⟨rfl,rfl⟩:=t;obtain⟨h0,h1,h2⟩:=hp;simp only[CP,Jk]at J;obtain⟨g,bq,rfl⟩:=J;cases hx with
 |osl K=>
  obtain⟨bl,L,b9⟩:=G.blk _ _ K;rw[I]at L;cases L;obtain⟨a,m,e2,fq,j7,hc,M,N⟩:=b9;cases e2;rename_i m a;have jm:(Instr.sliceBounds true n m E F none).run P w=.ok (l.toNat,h.toNat,m) w:=by
   rcases B Y md with⟨rfl,_,rfl⟩|⟨O,rfl,_⟩<;>rcases B Z v7 with⟨rfl,_,rfl⟩|⟨Q,rfl,_⟩
   .simp[Instr.sliceBounds]
   .simp[Instr.sliceBounds,Lv w Q h m _ E4 E4]
   .simp[Instr.sliceBounds,Lv w O l n _ E4 E4]
   .have:=Lv (P:=P) w O l h.toNat .sliceB E4 E4;simp[Instr.sliceBounds,Lv w Q h m _ E4 E4,this]
  have bi:l.toNat<=m:=E4;refine⟨.slice (if m=l.toNat then a else a.map (·.add (l.toNat*g.size))) (h.toNat-l.toNat) (m-l.toNat),μ.set k (.slice (if m=l.toNat then a else a.map (·.add (l.toNat*g.size))) (h.toNat-l.toNat) (m-l.toNat)),?_,.osl Em,b15 G W K ⟨_,_,_,rfl⟩ ⟨_,_,_,rfl⟩ ?_ (Jm _) (λ_ _ _=>rfl) rfl rfl rfl (λbz=> ?_),E6,(Jh.1 I).1,λj hj=>Es⟩
  .simp only[Instr.sliceAt,Is,Kf H,Instr.slice,jm,HQ bq]
  .by_cases q:m=l.toNat
   .left;rw[q,L8];exact Wy
   .right;left;rw[Jg q];rcases N with h3|⟨b,o,R,S,rfl,U,ho,V,y⟩
    .omega
    .simp only[Kn,Lb];exact(OP E4).trans (OP S).symm
  .have eh:(h-l).toNat=h.toNat-l.toNat:=E4;rw[eh];refine⟨if m=l.toNat then a else a.map (·.add (l.toNat*g.size)),m-l.toNat,rfl,E4,E4,?_,λi hi=>M _ E4,?_⟩
   .rcases hc with rfl|rfl
    .exact .inl rfl
    .exact .inr rfl
   .by_cases q:m=l.toNat
    .left;omega
    .right;rcases N with h3|⟨b,o,R,S,rfl,U,ho,V,y⟩
     .omega
     .have mf:(m-l.toNat)*g.size=m*g.size-l.toNat*g.size:=Nat.sub_mul _ _ _;have hmle:l.toNat*g.size<=m*g.size:=Ks _ bi;refine⟨b,o+l.toNat*g.size,R,E4,by rw[Jg q];simp[Lb],U,E4,V,λi j s v hi hs hv=> ?_⟩;refine KF bz (y (l.toNat+i) j s v E4 hs ?_) (Jp.1 (M _ E4).2 s (Jj hs));rwa[show o+(l.toNat+i)*g.size+j=o+l.toNat*g.size+i*g.size+j from Gg]
end
def SS:List IntKind->List SV->Option (List Int)
 | [],[]=>some []
 |k::a,.int b n::r=>if k=b then(SS a r).map (n:: ·)else none
 |_,_=>none
def Wb:KT->SV->Option (List Int)
 |.int1 k,.int a n=>if k=a then some [n]else none
 |.ints c,.agg d=>SS c d
 |.str,.con (.string s)=>some (s.data.toList.map λb=>(b.toNat:Int))
 |_,_=>none
section
variable{w:World}{H:Nat->Prop}{μ:Mu}
theorem c35:∀{ks:List IntKind} {cs:List SV} {q:List Int} {vs:List Value},SS ks cs=some q->vs.length=cs.length->(∀(i:Nat) (s:SV) (v:Value),cs[i]?=some s->vs[i]?=some v->D w H μ s v)->
 vs=HR ks q/\q.length=ks.length:=by
 intro ks;induction ks with
 |nil=>
  intro cs q vs h hl _;match cs,h with
  | [],h=>simp[SS]at h;subst h;simp at hl;subst hl;exact⟨rfl,rfl⟩
  |s::_,h=>simp[SS]at h
 |cons k ks b=>
  intro cs q vs h hl a;match cs,h with
  | [],h=>simp[SS]at h
  |.int k' n::r,h=>
   simp only[SS]at h;split at h
   .rename_i e;subst e;simp only[Jk]at h;obtain⟨q',c,rfl⟩:=h;match vs,hl with
    |v::vs,hl=>
     have d:=a 0 _ v rfl rfl;cases d;obtain⟨f,g⟩:=b (vs:=vs) c Eh (λi s u hs j=>a (i+1) s u G2 (by simpa using j));exact⟨by simp[HR,<-f],by simp[g]⟩
   .cases h
  |.bool _::_,h|.con _::_,h|.own _ _::_,h|.osl _::_,h|.oel _ _ _ _::_,h|.sl _ _ _ _::_,h|.rel _ _ _ _ _::_,h|.agg _::_,h|.tup _::_,h|.clo _ _::_,h|.omp _::_,h|.mp _ _ _ _::_,h|.any::_,h=>simp[SS]at h
theorem c3d(s:ByteArray):g10 (s.data.toList.map λb=>(b.toNat:Int))=s:=by
 obtain⟨⟨l⟩⟩:=s;simp only[g10,Lh];congr 1;apply Md;induction l with
 |nil=>rfl
 |cons a l c=>simp[c]
theorem b1i{K:KT}{s:SV}{v:Value}{q:List Int}(h:Wb K s=some q)(a:D w H μ s v):v=kv K q/\LJ K q:=by
 unfold Wb at h;split at h
 .split at h
  .rename_i e;cases h;subst e;cases a;exact⟨rfl,rfl⟩
  .cases h
 .cases a with
  |agg vs d f=>
   obtain⟨g,i⟩:=c35 h d f;exact⟨by rw[g];rfl,i⟩
 .cases a;simp only[K6]at h;subst h;refine⟨by simp only[kv,c3d],λn c=> ?_⟩;simp only[Jx]at c;obtain⟨b,_,rfl⟩:=c;have:=b.toNat_lt;omega
 .cases h
end
section
variable{P:Program}{w:World}
theorem b84{r:Nat}{K:KT}{k:Bool}{has:List Int->Bool}{g:List Int->List Value}{key:TypeId}(p:KLaw P key K)(h:MapAt w r K k has g){q:List Int}(s:LJ K q):
 ∃d c,w.heap[r]?=some (.map d c)/\(∀e∈d.toList,∃q,e.key=kv K q/\LJ K q/\has q=true/\e.val=HZ k (g q))/\d.toList.Pairwise (λa b=>a.key≠b.key)/\(∀q,has q=true->LJ K q/\∃e∈d.toList,e.key=kv K q)/\
  ∃x,(Instr.findKey key (kv K q) d.toList).run P w=.ok x w/\((x=none/\has q=false/\∀e∈d.toList,e.key≠kv K q)\/∃(j:Nat) (e:MapEntry),x=some (j,HZ k (g q))/\has q=true/\d.toList[j]?=some e/\e.key=kv K q):=by
 obtain⟨d,c,y,l,t,z⟩:=h.ex;refine⟨d,c,y,l,z,t,?_⟩;obtain⟨x,A,hx⟩:=p.find w q d.toList s (λe m=>by obtain⟨f,n,o,_⟩:=l e m;exact⟨f,o,n⟩);refine⟨x,A,?_⟩;rcases hx with⟨rfl,u⟩|⟨j,e,rfl,v,i⟩
 .refine .inl ⟨rfl,?_,u⟩;cases hb:has q with
  |false=>rfl
  |true=>
   obtain⟨_,e,m,i⟩:=t q hb;exact absurd i (u e m)
 .obtain⟨f,n,o,B,C⟩:=l e (Jj v);have:f=q:=p.inj f q o s (n.symm.trans i);subst this;exact .inr ⟨j,e,by rw[C],B,v,i⟩
theorem b92{r:Nat}{b:Array MapEntry}{a:Nat}(h:w.heap[r]?=some (.map b a)):(getObj r).run P w=.ok (.map b a) w:=by simp[getObj,Sem.run,h]
theorem b89{T key a:TypeId}{r:Nat}{K:KT}{c:Bool}{has:List Int->Bool}{g:List Int->List Value}{q:List Int}{ok:Bool}(i:P.underlying T=some (.map key a))(d:KLaw P key K)(h:MapAt w r K c has g)(f:LJ K q)
 {z:Value} (k:has q=false->(zeroValue a).run P w=.ok z w):
 (Instr.lookup T (.map (some r)) (kv K q) ok).run P w=.ok (if ok then .tuple #[if has q then HZ c (g q)else z,.bool (has q)]else if has q then HZ c (g q)else z) w:=by
 obtain⟨l,clock,m,_,_,_,x,n,hx⟩:=b84 d h f;simp only[Instr.lookup,Is,Kf i,b92 m,d.check w l.isEmpty q f,n];rcases hx with⟨rfl,b,_⟩|⟨j,e,rfl,b,_⟩
 .simp only[b,Is,k b,Iz]
 .simp only[b,Is,Kt]
def JX(has:List Int->Bool)(q:List Int):List Int->Bool:=λp=>decide (p=q)||has p
def MU(w:World)(r:Nat)(o:Obj):World:={w with heap:=w.heap.setIfInBounds r o}
theorem b5j{r:Nat}{o:Obj}(h:r<w.heap.size):(MU w r o).heap[r]?=some o:=by simp[MU,h]
theorem Sz{r i:Nat}{o:Obj}(h:i≠r):(MU w r o).heap[i]?=w.heap[i]?:=by simp[MU,Ne.symm h]
theorem WJ{r:Nat}{o:Obj}:(MU w r o).heap.size=w.heap.size:=by simp[MU]
theorem b7h{r:Nat}{c:Array MapEntry}{a:Nat}{b:Obj}(h:w.heap[r]?=some (.map c a)):(setObj r b).run P w=.ok () (MU w r b):=by simp[setObj,Sem.run,MU,h]
theorem b2y{T key t:TypeId}{r:Nat}{K:KT}{k:Bool}{has:List Int->Bool}{g:List Int->List Value}{q:List Int}{us:List Value}{v:Value}(X:v=HZ k us)(I:P.underlying T=some (.map key t))(u:KLaw P key K)(h:MapAt w r K k has g)(n:LJ K q):
 ∃o,(Instr.mapUpdate T (.map (some r)) (kv K q) v).run P w=.ok () (MU w r o)/\MapAt (MU w r o) r K k (JX has q) (λp=>if p=q then us else g p):=by
 have J:=h.lt;obtain⟨d,c,y,L,A,B,x,M,hx⟩:=b84 u h n;subst X;rcases hx with⟨rfl,N,O⟩|⟨j,e,rfl,N,hj,z⟩
 .refine⟨.map (d.push {key:=kv K q,val:=HZ k us,born:=c}) (c+1),?_,⟨_,_,b5j J,λe f=> ?_,λp l=> ?_,?_⟩⟩
  .simp only[Instr.mapUpdate,J9,Kf I,b92 y,u.check w false q n,M,b7h y]
  .simp only[Array.toList_push,Ka,K4]at f;rcases f with f|rfl
   .obtain⟨p,e1,e2,e3,e4⟩:=L e f;have:p≠q:=λC=>O e f (by rw[e1,C]);exact Da
   .exact⟨q,rfl,n,by simp[JX],E6⟩
  .simp only[JX,Kk,Jq]at l;rcases l with rfl|l
   .exact⟨n,{key:=kv K p,val:=HZ k us,born:=c},E6,rfl⟩
   .obtain⟨a,e,f,Y⟩:=B p l;exact⟨a,e,by simp[f],Y⟩
  .simp only[Array.toList_push];rw[List.pairwise_append];exact⟨A,List.pairwise_singleton _ _,λa Z b Q=>by simp at Q;subst Q;exact O a Z⟩
 .refine⟨.map (d.modify j λe=>{e with key:=kv K q,val:=HZ k us}) c,?_,?_⟩
  .have bm:d[j]?=some e:=Et;have cx:=u.stays w q n;simp only[Instr.mapUpdate,J9,Kf I,b92 y,u.check w false q n,M,bm,J6,z,cx,b7h y]
  .have E:(d.modify j λe=>{e with key:=kv K q,val:=HZ k us}).toList=d.toList.set j {e with key:=kv K q,val:=HZ k us}:=by
    apply Ma;intro i;rw[Li,Mq,List.getElem?_set];have s:j<d.toList.length:=(Jh.1 hj).1;by_cases e1:j=i
    .subst e1;rw[Jf rfl,Jf rfl,Jf s,<-Li,hj];rfl
    .rw[Jg e1,Jg e1,Li]
   have R:(d.toList.set j {e with key:=kv K q,val:=HZ k us}).map (·.key)=d.toList.map (·.key):=by
    apply Ma;intro i;rw[K1,K1,List.getElem?_set];have s:j<d.toList.length:=(Jh.1 hj).1;by_cases e1:j=i
    .subst e1;rw[Jf rfl,Jf s,hj];simp[z]
    .rw[Jg e1]
   have F:(d.toList.map (·.key)).Pairwise (· ≠ ·):=Kw.2 A;refine⟨_,_,b5j J,λG f=> ?_,λp l=> ?_,?_⟩
   .rw[E]at f;obtain⟨i,hi,eg⟩:=K7.1 f;have m:(d.toList.set j {e with key:=kv K q,val:=HZ k us})[i]?=some G:=by rw[Je hi,eg]
    rw[List.getElem?_set]at m;split at m
    .split at m
     .cases m;exact⟨q,rfl,n,by simp[JX],E6⟩
     .cases m
    .rename_i ba;obtain⟨p,e1,e2,e3,e4⟩:=L G (Jj m);have:p≠q:=λC=>by
      subst C;have S:i<d.toList.length:=(Jh.1 m).1;have s:j<d.toList.length:=(Jh.1 hj).1;have U:=Kg.1 A;have V:d.toList[i]=G:=(Jh.1 m).2;have W:d.toList[j]=e:=(Jh.1 hj).2;rcases Nat.lt_or_gt_of_ne ba with H|H
      .exact U j i s S H (by rw[V,W,z];exact e1.symm)
      .exact U i j S s H (by rw[V,W,z];exact e1)
     exact Da
   .have wn:LJ K p/\∃e∈d.toList,e.key=kv K p:=by
     simp only[JX,Kk,Jq]at l;rcases l with rfl|l
     .exact B p N
     .exact B p l
    obtain⟨a,e0,f,W2⟩:=wn;have:kv K p∈(d.toList.set j {e with key:=kv K q,val:=HZ k us}).map (·.key):=by rw[R];exact Jx.2 ⟨e0,f,W2⟩
    obtain⟨e1,wq,gz⟩:=Jx.1 this;exact⟨a,e1,by rw[E];exact wq,gz⟩
   .rw[E];exact Kw.1 (by rw[R];exact F)
end
def PW(ρ:Operand->Option SV):Option Operand->Option (Option SV)
 |none=>none
 |some x=>some (ρ x)
def d6u(E:Env)(own:List Blk)(ρ:Operand->Option SV)(c:Call):Option (Prop×SV):=
 match c.callee with
 |.builtin b=>(c.args.toList.mapM ρ).bind λa=>b5y E.P own b c.argTypes.toList a
 |_=>none
def Xt(own:List Blk):SV->Option (KT×Bool×(List Int->Bool)×(List Int->List SV))
 |.mp K b a val=>some (K,b,a,val)
 |.omp k=>match own[k]? with
  |some (.map K b a val)=>some (K,b,a,val)
  |_=>none
 |_=>none
def zAgg(P:Program)(T:TypeId):Option Bool:=(P.info? T).bind λi=>i.zero.map λz=>match z with
 |.agg _=>true
 |_=>false
def b43(E:Env)(own:List Blk)(T:TypeId)(m i:SV)(ok:Bool):Option (Prop×SV):=
 match E.P.underlying T with
 |some (.map _ a)=>(Xt own m).bind λ(K,c,b,val)=>if E.kt T=some K/\IW E.P a=some c/\zAgg E.P a=some c then
  (Wb K i).bind λq=>(Uh E.P a (val q)).map λs=>(b q=false->Oz E.P a=some (val q),if ok then .tup [s,.bool (b q)]else s)
  else none
 |_=>none
def zPtr(P:Program)(T:TypeId):Bool:=match (P.info? T).bind (·.zero)with
 |some (.pointer none)=>true
 |_=>false
def b60(E:Env)(own:List Blk)(T:TypeId)(m i:SV)(ok:Bool):Option (Prop×SV):=
 match m with
 |.omp j=>match own[j]? with
  |some (.pmap K k b BP)=>match E.P.underlying T with
   |some (.map _ a)=>if E.kt T=some K/\IW E.P a=some false/\zPtr E.P a=true then
    (Wb K i).map λq=>(True,if ok then .tup [.fp (b q) k (BP q) 0,.bool (b q)]else .fp (b q) k (BP q) 0)else none
   |_=>none
  |_=>b43 E own T m i ok
 |_=>b43 E own T m i ok
def c3v(P:Program)(T:TypeId)(x i:SV):Option (Prop×SV):=
 match i with
 |.int _ n=>match P.underlying T with
  |some (.array len e)=>match x with
   |.agg b=>match CP P e with
    |some a=>if n.toNat<len/\b.length=len*a then(Uh P e ((b.drop (n.toNat*a)).take a)).map λs=>(0<=n,s)else none
    |none=>none
   |_=>none
  |some .string=>match x with
   |.con (.string s)=>some (0<=n/\n.toNat<s.size,.int .u8 (((s.data.toList.getD n.toNat 0).toNat:Nat):Int))
   |_=>none
  |_=>none
 |_=>none
def d4g(P:Program)(own:List Blk)(b:BinOp)(T:TypeId):SV->SV->Option (Prop×SV)
 |.osl k,.con (.slice none 0 0)=>match own[k]?,P.underlying T with
  |some (.row _ _ n _ _),some (.slice _)=>match b with
   |.eql=>some (True,.ub (n=0) True)
   |.neq=>some (True,.ub True (n=0))
   |_=>none
  |_,_=>none
 |_,_=>none
def Yg(E:Env)(own:List Blk)(ρ:Operand->Option SV)(h:Op):Option (Prop×SV):=
 match h with
 |.move x=>(ρ x).map λs=>(True,s)
 |.assign x=>(ρ x).map λs=>(True,s)
 |.nilCheck x=>match ρ x with
  |some (.own k o)=>some (True,.own k o)
  |some (.oel k e i o)=>some (True,.oel k e i o)
  |some (.rel e n f i o)=>some (True,.rel e n f i o)
  |some (.clo f g)=>some (True,.clo f g)
  |_=>none
 |.load T x=>(ρ x).bind λp=>UA E.P own T p
 |.fieldAddr T x f=>(ρ x).bind λp=>b23 E.P T f p
 |.field T x f=>(ρ x).bind λp=>c4e E.P T f p
 |.indexAddr T x i=>(ρ x).bind λp=>(ρ i).bind λn=>b21 E.P own T p n
 |.binOp b T x y _=>(ρ x).bind λs=>(ρ y).bind λt=>match d4g E.P own b T s t with
  |some r=>some r
  |none=>c6g E b T s t
 |.unOp u _ x=>(ρ x).bind λs=>evUn u s
 |.convert S T x=>(ρ x).bind λs=>d6f E.P S T s
 |.extract x i=>(ρ x).bind λs=>b5f s i
 |.build T a=>(a.toList.mapM λ(p:Nat×Operand)=>(ρ p.2).map λs=>(p.1,s)).bind λj=>c50 E.P T j
 |.slice T x l q v=>(ρ x).bind λs=>c3w E.P own T s (PW ρ l) (PW ρ q) (PW ρ v)
 |.makeFunc (.func f) first d=>if first.isEmpty then(d.toList.mapM ρ).map λg=>(True,.clo f g)else none
 |.call c=>d6u E own ρ c
 |.index T x i=>(ρ x).bind λs=>(ρ i).bind λt=>c3v E.P T s t
 |.lookup T m i w=>(ρ m).bind λs=>(ρ i).bind λt=>b60 E own T s t w
 |_=>none
section
variable{E:Env}{w:World}{μ:Mu}{B0:Nat}{X A:Nat->Prop}{own ownN:List Blk}{a:Act}{ρ:Operand->Option SV}
theorem Tm(b:∀(x:Operand) (s:SV),ρ x=some s->D w (held A μ) μ s (a.eval x)){xs:List Operand}{c:List SV}(h:xs.mapM ρ=some c):
 DL w (held A μ) μ c (xs.map a.eval):=by
 obtain⟨h1,g⟩:=OM h;refine⟨Eu,λi s v hs d=> ?_⟩;simp only[Iw]at d;obtain⟨x,hx,rfl⟩:=d;obtain⟨y,f,e⟩:=g i x hx;rw[hs]at f;cases f;exact b x s e
theorem b9e(q:Own B0 X A w μ ownN)(t:∀(k:Nat) (bl:Blk),own[k]?=some bl->ownN[k]?=some bl){b:Builtin}{ts:List TypeId}{ty:TypeId}{y:List SV}{vs:List Value}{s:SV}{f:Prop}{cs:Array Bool}
 (c:DL w (held A μ) μ y vs) (d:b5y E.P own b ts y=some (f,s)):∃r,(builtin b ts.toArray ty cs vs.toArray).run E.P w=.ok (.value r) w/\D w (held A μ) μ s r:=by
 unfold b5y at d;split at d
 .rename_i T x;split at d
  .rename_i e g;have i:=QT g;simp only[Iq]at d;obtain⟨n,j,rfl,rfl⟩:=d;match vs,c with
   | [v],c=>
     obtain⟨z,m,rfl,_,_⟩:=c36 q t (c.2 0 x v rfl rfl) j;refine⟨_,?_,.int⟩;simp[builtin,Builtin.len_,Kf i,goInt]
   | [],c=>exact absurd c.1 E6
   |_::_::_,c=>exact absurd c.1 E6
  .cases d
 .rename_i T x;split at d
  .rename_i e g;have i:=QT g;simp only[Iq]at d;obtain⟨n,j,rfl,rfl⟩:=d;match vs,c with
   | [v],c=>
     obtain⟨z,m,rfl⟩:=c56 q t (c.2 0 x v rfl rfl) j;refine⟨_,?_,.int⟩;simp[builtin,Builtin.cap_,Kf i,goInt]
   | [],c=>exact absurd c.1 E6
   |_::_::_,c=>exact absurd c.1 E6
  .cases d
 .rename_i k a B b;cases d;match vs,c with
  | [u,v],c=>
    have l:=c.2 0 _ u rfl rfl;have o:=c.2 1 _ v rfl rfl;cases l;cases o;refine⟨_,?_,.int⟩;simp[builtin,d8z]
  | [],c=>exact absurd c.1 E6
  | [_],c=>exact absurd c.1 E6
  |_::_::_::_,c=>exact absurd c.1 E6
 .rename_i k a B b;cases d;match vs,c with
  | [u,v],c=>
    have l:=c.2 0 _ u rfl rfl;have o:=c.2 1 _ v rfl rfl;cases l;cases o;refine⟨_,?_,.int⟩;simp[builtin,f1k]
  | [],c=>exact absurd c.1 E6
  | [_],c=>exact absurd c.1 E6
  |_::_::_::_,c=>exact absurd c.1 E6
 .cases d
theorem c45{P:Program}{H:Nat->Prop}{T:TypeId}{x i s:SV}{v u:Value}{c:Prop}(hx:D w H μ x v)(hi:D w H μ i u)(b:c3v P T x i=some (c,s))(o:c):∃r,(Instr.index T v u).run P w=.ok r w/\D w H μ s r:=by
 unfold c3v at b;split at b;rotate_left
 .cases b
 rename_i k n;cases hi;split at b
 .rename_i len e f;split at b;rotate_left
  .cases b
  rename_i cs;split at b;rotate_left
  .cases b
  rename_i sz q;split at b;rotate_left
  .cases b
  rename_i A;obtain⟨B,hl⟩:=A;simp only[Iq]at b;obtain⟨C,hs,rfl,rfl⟩:=b;simp only[CP,Jk]at q;obtain⟨a,t,rfl⟩:=q;cases hx with
  |agg j sw E=>
   have mf:n.toNat*a.size+a.size<=len*a.size:=by rw[<-Mw];exact Ks _ B
   obtain⟨d,y,h⟩:=b06 (w:=w) (H:=H) (μ:=μ) (us:=(j.drop (n.toNat*a.size)).take a.size) hs Ed (λi s u hs f=>E _ _ _ (HF hs).2 (HF f).2);have g:HJ d=false->a.size=1:=λz=>by
    rcases h with h|⟨_,u,l,_⟩
    .rw[h.1]at z;cases z
    .have:=Md List.length l;simp at this;omega
   have F:=Tr (w:=w) y t j (n.toNat*a.size) E4 g;have G:D w H μ C (HH P e ((j.drop (n.toNat*a.size)).take a.size)):=by
    unfold HH IW;rw[y];rcases h with⟨m,h⟩|⟨m,u,l,h⟩
    .simp only[J6,m,Kt];exact h
    .simp only[J6,m,Iz,l,List.getD_cons_zero];exact h
   refine⟨_,?_,G⟩;have I:n<(len:Int):=E4;have J:(0<=n/\n<(len:Int)):=⟨o,I⟩
   simp only[Instr.index,Is,asIntOf,Kf f];rw[Jf J];simp only[J9,HQ (w:=w) t,F]
 .rename_i f;split at b;rotate_left
  .cases b
  rename_i s;simp only[Ir]at b;obtain⟨rfl,rfl⟩:=b;cases hx;obtain⟨K,g⟩:=o;refine⟨_,?_,.int⟩;have L:s[n.toNat]?=some s[n.toNat]:=getElem?_pos s n.toNat g;simp only[Instr.index,Is,asIntOf,Kf f];rw[Jf K,L,Sem.run_pure];congr 1;have:s[n.toNat]=s.data.toList.getD n.toNat 0:=by
   have M:n.toNat<s.data.toList.length:=by rw[Lq];exact g
   rw[Jd,Je M];rfl
  rw[this]
 .cases b
theorem c3s(j:Own B0 X A w μ ownN)(l:∀(k:Nat) (bl:Blk),own[k]?=some bl->ownN[k]?=some bl){s:SV}{v:Value}(a:D w (held A μ) μ s v){K:KT}{f:Bool}{has:List Int->Bool}{val:List Int->List SV}(h:Xt own s=some (K,f,has,val)):
 ∃r g,v=.map (some r)/\MapAt w r K f has g/\(∀q,has q=true->(g q).length=(val q).length/\(val q).all SV.pure=true)/\∀(q:List Int) (i:Nat) (s:SV) (v:Value),has q=true->(val q)[i]?=some s->(g q)[i]?=some v->D w (held A μ) μ s v:=by
 cases a with
 |mp r g hb b c a=>
  simp only[Xt,Ir]at h;obtain⟨rfl,rfl,rfl,rfl⟩:=h;exact⟨r,g,rfl,b,c,a⟩
 |omp d=>
  simp only[Xt]at h;split at h
  .rename_i m;simp only[Ir]at h;obtain⟨rfl,rfl,rfl,rfl⟩:=h;obtain⟨bl,e,n⟩:=j.blk _ _ d;rw[l _ _ m]at e;cases e;obtain⟨r,g,o,b,c,a⟩:=n;cases o;exact⟨r,g,rfl,b,c,a⟩
  .cases h
 |_=>simp[Xt]at h
theorem b3y(U:EnvOK E)(V:Own B0 X A w μ ownN)(W:∀(k:Nat) (bl:Blk),own[k]?=some bl->ownN[k]?=some bl){T:TypeId}{m i s:SV}{ok:Bool}{v u:Value}{f:Prop}(Y:D w (held A μ) μ m v)(hi:D w (held A μ) μ i u)
 (b:b43 E own T m i ok=some (f,s)) (Z:f):∃r,(Instr.lookup T v u ok).run E.P w=.ok r w/\D w (held A μ) μ s r:=by
 unfold b43 at b;split at b;rotate_left
 .cases b
 rename_i ky j L;simp only[Jn]at b;obtain⟨⟨K,c,a,val⟩,C,b⟩:=b;simp only at b;split at b;rotate_left
 .cases b
 rename_i hc;obtain⟨vg,o,M⟩:=hc;simp only[Jn,Iq]at b;obtain⟨q,hq,s0,N,rfl,rfl⟩:=b;obtain⟨r,g,rfl,qp,hl,hd⟩:=c3s V W Y C;obtain⟨ky',elem',O,ku⟩:=U.kt T K vg;rw[L]at O;cases O;obtain⟨rfl,mq⟩:=b1i hq hi;have df:∃x,(a q=true->x=HZ c (g q))/\(a q=false->(zeroValue j).run E.P w=.ok x w)/\D w (held A μ) μ s0 x:=by
  cases l:a q with
  |true=>
   refine⟨HZ c (g q),λ_=>rfl,λh=>Eg,?_⟩;obtain⟨d,e,h|h⟩:=b06 (w:=w) (H:=held A μ) (μ:=μ) (us:=g q) N (hl q l).1 (λi s u hs e=>hd q i s u l hs e)
   .have:c=true:=by simpa[IW,e,h.1]using o.symm
    rw[this];exact h.2
   .obtain⟨F,u,t,G⟩:=h;have:c=false:=by simpa[IW,e,F]using o.symm
    rw[this,t];exact G
  |false=>
   obtain⟨inf,y,I,J,hze,Q⟩:=SG (w:=w) (H:=held A μ) (μ:=μ) (Z l);refine⟨y,λh=>Eg,λ_=>Ux I J,?_⟩;obtain⟨d,e,h|h⟩:=b06 (w:=w) (H:=held A μ) (μ:=μ) (us:=y.cells.toList) N Q.1 Q.2
   .have h2:=h.2;have:c=true:=by simpa[IW,e,h.1]using o.symm
    subst this;cases y<;>simp[zAgg,I,J]at M
    simpa[Value.cells]using h2
   .obtain⟨F,u,t,G⟩:=h;have:c=false:=by simpa[IW,e,F]using o.symm
    subst this;cases y<;>simp[zAgg,I,J]at M
    all_goals
     simp only[Value.cells,J7]at t;subst t;exact G
 obtain⟨x,rz,pu,R⟩:=df;have S:=b89 (w:=w) (ok:=ok) L ku qp mq (z:=x) pu;have n:(if a q then HZ c (g q)else x)=x:=by
  cases l:a q with
  |true=>simp[rz l]
  |false=>simp
 rw[n]at S;refine⟨_,S,?_⟩;cases ok with
 |true=>
  refine .tup [x,.bool (a q)] rfl (λi s v hs B=> ?_);match i with
  |0=>simp at hs B;subst hs B;exact R
  |1=>simp at hs B;subst hs B;exact .bool
  |i+2=>simp at hs
 |false=>exact R
theorem c0z(o:EnvOK E)(t:Own B0 X A w μ ownN)(x:∀(k:Nat) (bl:Blk),own[k]?=some bl->ownN[k]?=some bl){T:TypeId}{m i s:SV}{ok:Bool}{v u:Value}{c:Prop}(y:D w (held A μ) μ m v)(hi:D w (held A μ) μ i u)
 (a:b60 E own T m i ok=some (c,s)) (F:c):∃r,(Instr.lookup T v u ok).run E.P w=.ok r w/\D w (held A μ) μ s r:=by
 unfold b60 at a;split at a;rotate_left
 .exact b3y o t x y hi a F
 rename_i j;split at a;rotate_left
 .exact b3y o t x y hi a F
 rename_i K k b BP I;split at a;rotate_left
 .cases a
 rename_i ky d G;split at a;rotate_left
 .cases a
 rename_i J;obtain⟨L,qm,B⟩:=J;simp only[Iq]at a;obtain⟨q,M,rfl,rfl⟩:=a;obtain⟨ky',elem',H,N⟩:=o.kt T K L;rw[G]at H;cases H;obtain⟨rfl,O⟩:=b1i M hi;cases y with
 |omp C=>
 obtain⟨bl,e,Q⟩:=t.blk _ _ C;rw[x _ _ I]at e;cases e;obtain⟨_,r,g,R,S,U⟩:=Q;cases R;have l:(E.P.info? d).bind (·.zero)=some (.pointer none):=by
  unfold zPtr at B;split at B
  .assumption
  .cases B
 simp only[Jn]at l;obtain⟨inf,V,l⟩:=l;have W:=b89 (w:=w) (ok:=ok) G N S O (z:=.pointer none) (λ_=>Ux V l);refine⟨_,W,?_⟩;have f:D w (held A μ) μ (.fp (b q) k (BP q) 0) (if b q then HZ false (g q)else .pointer none):=by
  cases hh:b q with
  |true=>
   obtain⟨p,e,h⟩:=U q hh;simp only[Kt,HZ,e,Iz,List.getD_cons_zero];exact h
  |false=>
   simp only[Iz];exact .fp rfl
 cases ok with
 |true=>
  refine .tup [_,.bool (b q)] rfl (λi s v hs n=> ?_);match i with
  |0=>simp at hs n;subst hs n;exact f
  |1=>simp at hs n;subst hs n;exact .bool
  |i+2=>simp at hs
 |false=>exact f
theorem d3p(V:EnvOK E)(I:Own B0 X A w μ ownN)(J:∀(k:Nat) (bl:Blk),own[k]?=some bl->ownN[k]?=some bl)(g:∀(x:Operand) (s:SV),ρ x=some s->D w (held A μ) μ s (a.eval x)){o:Oper}{s:SV}{z:Prop}
 (d:Yg E own ρ o.op=some (z,s)) (B:z):∃r,(execOp a.eval o).run E.P w=.ok (.value r) w/\D w (held A μ) μ s r:=by
 obtain⟨dst,op,K,pos,after,guard⟩:=o;simp only at d;unfold Yg at d;split at d
 .simp only[Iq]at d;obtain⟨t,L,rfl,rfl⟩:=d;exact⟨_,by simp[execOp],g _ _ L⟩
 .simp only[Iq]at d;obtain⟨t,L,rfl,rfl⟩:=d;exact⟨_,by simp[execOp],g _ _ L⟩
 .rename_i x;split at d<;>try cases d
  all_goals
   have R:=g _ _ E8;refine⟨_,?_,R⟩;generalize hv:a.eval x=v at R;cases R;simp[execOp,hv]
 .simp only[Jn]at d;obtain⟨p,hx,d⟩:=d;obtain⟨u,h1,h2⟩:=b3h I J (g _ _ hx) d B;exact C9
 .simp only[Jn]at d;obtain⟨p,hx,d⟩:=d;obtain⟨u,h1,h2⟩:=b6t (w:=w) (g _ _ hx) d;exact C9
 .simp only[Jn]at d;obtain⟨p,hx,d⟩:=d;obtain⟨u,h1,h2⟩:=c4r (w:=w) (g _ _ hx) d;exact C9
 .simp only[Jn]at d;obtain⟨p,hx,n,M,d⟩:=d;obtain⟨u,h1,h2⟩:=b5c I J (g _ _ hx) (g _ _ M) d B;exact C9
 .rename_i b T x y t;simp only[Jn]at d;obtain⟨W,hx,Y,C,d⟩:=d;have d:d4g E.P own b T W Y=some (z,s)\/c6g E b T W Y=some (z,s):=by
   split at d
   .rename_i r G;cases d;exact .inl G
   .exact .inr d
  obtain⟨u,h1,h2⟩:∃r,(do eqGuard b T x y (a.eval x) (a.eval y);binOp b T (a.eval x) (a.eval y)).run E.P w=.ok r w/\D w (held A μ) μ s r:=by
   rcases d with d|d;rotate_left
   .exact d0a V (xo:=x) (yo:=y) (g _ _ hx) (g _ _ C) d B
   .have Z:=g _ _ hx;have d2:=g _ _ C;generalize a.eval x=v1 at Z⊢;generalize a.eval y=v2 at d2⊢;unfold d4g at d;split at d;rotate_left
    .cases d
    split at d;rotate_left
    .cases d
    rename_i hk hu;cases d2;cases Z with
    | @osl k n0 m0 S h=>
    obtain⟨bl,e,b9⟩:=I.blk _ _ h;rw[J _ _ hk]at e;cases e;obtain⟨a',m',O,U,_,_,_,G⟩:=b9;simp only[Value.slice.injEq]at O;obtain⟨ea,en,em⟩:=O;rw[<-ea]at G;rw[<-em]at U G;have hz:S=none->∀{q:Nat},q<=m0->q=0:=λe q hq=>by
     rcases G with G|⟨b,o,vs,c8,e2,_⟩
     .omega
     .rw[e]at e2;cases e2
    split at d
    .cases d;exact⟨_,b24 hu x y _ _ _,.ub (λe=>hz (by cases S<;>first|rfl|cases e) U) (λ_=>Ji)⟩
    .cases d;exact⟨_,b29 hu x y _ _ _,.ub (λ_=>Ji) (λe=>hz (by cases S<;>first|rfl|cases e) U)⟩
    .cases d
  refine⟨u,?_,h2⟩;simp only[execOp];rw[L9,h1];simp
 .simp only[Jn]at d;obtain⟨p,hx,d⟩:=d;obtain⟨u,h1,h2⟩:=d7f (P:=E.P) (g _ _ hx) d B;exact C9
 .simp only[Jn]at d;obtain⟨p,hx,d⟩:=d;obtain⟨u,h1,h2⟩:=d06 (g _ _ hx) d B;exact C9
 .simp only[Jn]at d;obtain⟨p,hx,d⟩:=d;obtain⟨u,h1,h2⟩:=b99 (P:=E.P) (g _ _ hx) d;exact C9
 .rename_i T l;simp only[Jn]at d;obtain⟨ps,W3,d⟩:=d;obtain⟨l1,l2⟩:=OM W3;obtain⟨u,h1,h2⟩:=c4x (w:=w) (H:=held A μ) (μ:=μ) (ps:=l.toList.map λp=>(p.1,a.eval p.2)) d (by simp[l1]) (λi j s hs=>by
   have b6:i<l.toList.length:=Gk;obtain⟨y,C,e⟩:=l2 i _ (Je b6);rw[hs]at C;cases C;simp only[Iq]at e;obtain⟨t,L,O,rfl⟩:=e;refine⟨a.eval (l.toList[i]).2,?_,g _ _ L⟩;rw[K1,Je b6,<-O];rfl)
  refine⟨u,?_,h2⟩;have N:(l.map λ(p:Nat×Operand)=>(p.1,a.eval p.2))=(l.toList.map λp=>(p.1,a.eval p.2)).toArray:=by apply Array.ext';simp
  simp only[execOp,N];rw[L9,h1];simp
 .rename_i T x lo hi mx;simp only[Jn]at d;obtain⟨p,hx,d⟩:=d;have F:∀o:Option Operand,DO w (held A μ) μ (PW ρ o) (o.map a.eval):=by
   intro o;cases o with
   |none=>simp[DO,PW]
   |some y=>
    simp only[PW,Kn];cases C:ρ y with
    |none=>simp[DO]
    |some t=>simpa[DO]using g _ _ C
  obtain⟨u,h1,h2⟩:=c3x (w:=w) (H:=held A μ) (μ:=μ) (g _ _ hx) (F lo) (F hi) (F mx) d B;exact C9
 .rename_i f first m
  split at d;rotate_left
  .cases d
  rename_i hf;simp only[Iq]at d;obtain⟨cs,fm,rfl,rfl⟩:=d;have Q:=Tm (a:=a) g fm;have vk:first= #[]:=by simpa using hf
  refine⟨.func (.func f) #[] (m.toList.map a.eval).toArray,?_,.clo _ Q.1 Q.2⟩;have N:m.map a.eval=(m.toList.map a.eval).toArray:=Fb;simp only[execOp,Instr.makeFunc,vk,N];simp
 .rename_i c;unfold d6u at d;split at d
  .rename_i b hb;simp only[Jn]at d;obtain⟨xs,kq,d⟩:=d;have Q:=Tm (a:=a) g kq;obtain⟨u,h1,h2⟩:=b9e (ts:=c.argTypes.toList) (ty:=K) (cs:=c.args.map fun|.const _=>true|_=>false) I J Q d;refine⟨u,?_,h2⟩;have N:c.args.map a.eval=(c.args.toList.map a.eval).toArray:=Fb;simp only[execOp,resolve,hb,Is,invoke,N];rw[show c.argTypes.toList.toArray=c.argTypes from E6]at h1;exact h1
  .cases d
 .simp only[Jn]at d;obtain⟨p,hx,n,M,d⟩:=d;obtain⟨u,h1,h2⟩:=c45 (w:=w) (g _ _ hx) (g _ _ M) d B;exact C9
 .simp only[Jn]at d;obtain⟨p,hx,n,M,d⟩:=d;obtain⟨u,h1,h2⟩:=c0z V I J (g _ _ hx) (g _ _ M) d B;exact C9
 .cases d
end
structure Entry where
 slot:Nat
 guard:Option (Nat×Bool)
 sv:SV
structure St where
 ρ:List Entry
 own:List Blk
def CD(t:Nat):List Entry->Option Entry
 | []=>none
 |e::r=>if e.slot=t then some e else CD t r
def CE(E:Env)(ρ:List Entry)(g:Option (Nat×Bool)):Operand->Option SV
 |.tmp t=>match CD t ρ with
  |some e=>match e.guard with
   |none=>some e.sv
   |some q=>if g=some q then some e.sv else none
  |none=>none
 |.const v=>some (f94 v)
 |.global n=>E.glob n
 |.func f=>some (.clo f [])
def UG(d:Nat)(e:Entry):Entry:=match e.guard with
 |some (g,_)=>if g=d then {e with guard:=none,sv:=.any}else e
 |none=>e
def KJ(d:Option Nat)(g:Option (Nat×Bool))(s:SV)(ρ:List Entry):List Entry:=match d with
 |none=>ρ
 |some d=>⟨d,g,s⟩::(if ρ.any (λe=>match e.guard with|some (q,_)=>q==d|none=>false)then ρ.map (UG d)else ρ)
def UD(k:List Nat)(ρ:List Entry):List Entry:=ρ.map λe=>{e with sv:=e.sv.kill2 k}
def CU(w:World)(H:Nat->Prop)(μ:Mu)(tmps:Array Value)(e:Entry):Prop:=
 match e.guard with
 |none=>D w H μ e.sv (tmps.getD e.slot undef)
 |some (g,b)=>(tmps.getD g undef=.bool b->D w H μ e.sv (tmps.getD e.slot undef))/\(tmps.getD g undef≠.bool b->tmps.getD e.slot undef=undef)
def EN(w:World)(H:Nat->Prop)(μ:Mu)(tmps:Array Value)(ρ:List Entry):Prop:=∀t e,CD t ρ=some e->CU w H μ tmps e
structure SD (E:Env) (B0:Nat) (X A:Nat->Prop) (w0:World) (nt:Nat) (st:St) (a:Act) (w:World) (μ:Mu):Prop where
 own:Own B0 X A w μ st.own
 fr:Fr B0 X w0 w
 base:B0<=w.heap.size
 glo:∀g s,E.glob g=some s->s.pure=true/\D w (held A μ) μ s (.pointer (some ⟨g,0,none⟩))
 dfr:a.defers=[]
 size:a.tmps.size=nt
 env:EN w (held A μ) μ a.tmps st.ρ
 fresh:∀k,st.own.length<=k->μ k=none
 anc:∀k x,E.an k=some x->μ k=some x
theorem ML{t:Nat}{ρ:List Entry}{e:Entry}(h:CD t ρ=some e):e.slot=t:=by
 induction ρ with
 |nil=>simp[CD]at h
 |cons x r a=>
  simp only[CD]at h;split at h
  .cases h;assumption
  .exact a h
theorem UI{t:Nat}{f:Entry->Entry}(a:∀e,(f e).slot=e.slot)(ρ:List Entry):CD t (ρ.map f)=(CD t ρ).map f:=by
 induction ρ with
 |nil=>rfl
 |cons x r b=>
  simp only[L3,CD,a];split<;>simp[b]
theorem c3q(d:Nat)(e:Entry):(UG d e).slot=e.slot:=by unfold UG;split<;>(try split)<;>rfl
section
variable{w w':World}{H H':Nat->Prop}{μ μ':Mu}{tmps:Array Value}{ρ:List Entry}
theorem EN.keep(a:Keeps w w' H H' μ μ')(h:EN w H μ tmps ρ):EN w' H' μ' tmps ρ:=by
 intro t e b;have:=h t e b;unfold CU at this⊢;split at this
 .exact this.keep a
 .exact⟨λc=>(this.1 c).keep a,this.2⟩
theorem EN.change{k:List Nat}(a:Keeps' k w w' H H' μ μ')(h:EN w H μ tmps ρ):EN w' H' μ' tmps (UD k ρ):=by
 intro t e b;rw[UD,UI (f:=λ(e:Entry)=>{e with sv:=e.sv.kill2 k}) (λ_=>rfl),Jk]at b;obtain⟨c,d,rfl⟩:=b;have:=h t c d;unfold CU at this⊢;simp only;split at this
 .exact b3n a this
 .exact⟨λg=>b3n a (this.1 g),this.2⟩
theorem Mo{tmps:Array Value}{d t:Nat}{v:Value}(a:d<tmps.size):(tmps.setIfInBounds d v).getD t undef=if t=d then v else tmps.getD t undef:=by
 by_cases e:t=d
 .subst e;simp[a]
 .simp[e,M8 (Ne.symm e)]
theorem EN.put(h:EN w H μ tmps ρ){d:Nat}(j:d<tmps.size){g:Option (Nat×Bool)}{s:SV}{v:Value}(_:∀q b,g=some (q,b)->q≠d)
 (m:CU w H μ (tmps.setIfInBounds d v) ⟨d,g,s⟩):EN w H μ (tmps.setIfInBounds d v) (KJ (some d) g s ρ):=by
 have c:∀t e,t≠d->CD t ρ=some e->CU w H μ (tmps.setIfInBounds d v) (UG d e):=by
  intro t e f a;have hs:=ML a;have:=h t e a;unfold UG;split
  .rename_i q b i;split
   .unfold CU;exact .any
   .rename_i k;unfold CU at this⊢;rw[i]at this⊢;simp only at this⊢;rw[Mo j,Mo j,Jg k,Jg (by rw[hs];exact f)];exact this
  .rename_i i;unfold CU at this⊢;rw[i]at this⊢;simp only at this⊢;rw[Mo j,Jg (by rw[hs];exact f)];exact this
 intro t e a;simp only[KJ,CD]at a;split at a
 .cases a;exact m
 .rename_i f;split at a
  .rw[UI (c3q d),Jk]at a;obtain⟨n,o,rfl⟩:=a;exact c t n (Ne.symm f) o
  .rename_i l;have:=c t e (Ne.symm f) a;have p:UG d e=e:=by
    unfold UG;split
    .rename_i q b i;split
     .rename_i k;exfalso;apply l;rw[Jz];have u:e∈ρ:=by
       clear l c this h;induction ρ with
       |nil=>simp[CD]at a
       |cons x r y=>
        simp only[CD]at a;split at a
        .cases a;simp
        .exact K8 _ (y a)
      exact⟨e,u,by rw[i];simpa using k⟩
     .rfl
    .rfl
   rwa[p]at this
theorem Qv{E:Env}{a:Act}{g:Option (Nat×Bool)}(k:∀n s,E.glob n=some s->D w H μ s (.pointer (some ⟨n,0,none⟩)))(l:EN w H μ a.tmps ρ)
 (m:∀q b,g=some (q,b)->a.tmps.getD q undef=.bool b):∀(x:Operand) (s:SV),CE E ρ g x=some s->D w H μ s (a.eval x):=by
 intro x s h;cases x with
 |tmp t=>
  simp only[CE]at h;split at h
  .rename_i e j;have hs:=ML j;have c:=l t e j;unfold CU at c;split at h
   .rename_i o;cases h;rw[o]at c;simp only at c;rw[hs]at c;exact c
   .rename_i q r;split at h
    .rename_i d;cases h;rw[r]at c;obtain⟨u,y⟩:=q;simp only at c;have:=c.1 (m u y d);rw[hs]at this;exact this
    .cases h
  .cases h
 |const v=>simp only[CE,K6]at h;subst h;exact f6r v
 |global n=>exact k n s h
 |func f=>simp only[CE,K6]at h;subst h;exact .clo [] rfl (λi s v h _=>Ee)
end
def SV.ro00(own:List Blk):SV->SV
 |.osl k=>match own[k]? with
  |some (.row _ b n f c)=>.sl b n f c
  |_=>.any
 |.omp k=>match own[k]? with
  |some (.map K d a val)=>.mp K d a val
  |_=>.any
 |.own _ _|.oel _ _ _ _|.agg _|.tup _|.fp _ _ _ _=>.any
 |.clo f e=>if e.isEmpty then .clo f []else .any
 |s=>s
def SV.ro0(own:List Blk):SV->SV
 |.own k a=>match own[k]? with
  |some (.cells _ b)=>.rel b.length 1 (λ_=>b.map (SV.ro00 own)) 0 a
  |_=>.any
 |s=>s.ro00 own
def SV.ro1(own:List Blk):SV->Option SV
 |.osl k=>match own[k]? with
  |some (.row _ e n f c)=>some (.sl e n f c)
  |_=>none
 |.omp k=>match own[k]? with
  |some (.map K g b val)=>some (.mp K g b val)
  |_=>none
 |.own k d=>match own[k]? with
  |some (.cells _ a)=>some (.rel a.length 1 (λ_=>a.map (SV.ro0 own)) 0 d)
  |_=>none
 |.oel _ _ _ _|.agg _|.tup _|.fp _ _ _ _|.any=>none
 |.clo f a=>if a.isEmpty then some (.clo f [])else none
 |s=>some s
def SV.ro(own:List Blk):SV->Option SV
 |.clo f a=>(a.mapM (SV.ro1 own)).map (.clo f)
 |s=>s.ro1 own
def SV.roA(own:List Blk):SV->Option SV
 |.agg a=>(a.mapM (SV.ro own)).map .agg
 |s=>s.ro own
def SV.isOsl0:SV->Bool
 |.osl _|.omp _|.own _ _=>true
 |_=>false
def SV.isOsl:SV->Bool
 |.clo _ a=>a.any SV.isOsl0
 |s=>s.isOsl0
def SV.hasOsl:SV->Bool
 |.agg a=>a.any SV.isOsl
 |s=>s.isOsl
def SV.flat0:SV->Bool
 |.int _ _|.bool _|.con _=>true
 |.clo _ a=>a.isEmpty
 |_=>false
def SV.flat1:SV->Bool
 |.agg a=>a.all SV.flat0
 |s=>s.flat0
def SV.flat2:SV->Bool
 |.tup a=>a.all SV.flat1
 |s=>s.flat1
section
variable{w:World}{H H':Nat->Prop}{μ μ':Mu}
theorem Wn{s:SV}{v:Value}{w':World}(a:s.flat0=true)(h:D w H μ s v):D w' H' μ' s v:=by
 cases h<;>simp[SV.flat0]at a
 .exact .int
 .exact .bool
 .exact .con
 .rename_i vs hl hd;subst a;exact Cg
theorem d22{s:SV}{v:Value}{w':World}(a:s.flat1=true)(h:D w H μ s v):D w' H' μ' s v:=by
 unfold SV.flat1 at a;split at a
 .cases h with
  |agg b c d=>exact .agg b c (λi s v hs e=>Wn (Jp.1 a s (Jj hs)) (d i s v hs e))
 .exact Wn a h
theorem f6e{s:SV}{v:Value}{w':World}(a:s.flat2=true)(h:D w H μ s v):D w' H' μ' s v:=by
 unfold SV.flat2 at a;split at a
 .cases h with
  |tup b c d=>exact .tup b c (λi s v hs e=>d22 (Jp.1 a s (Jj hs)) (d i s v hs e))
 .exact d22 a h
theorem GN(hH:∀b,H' b->H b){s:SV}{v:Value}(h:D w H μ s v):s.pure=true->D w H' μ' s v:=by
 induction h with
 |int=>exact λ_=>.int
 |bool=>exact λ_=>.bool
 |con=>exact λ_=>.con
 |own h=>intro hp;simp[SV.pure,SV.pure0]at hp
 |osl h=>intro hp;simp[SV.pure,SV.pure0]at hp
 |oel h=>intro hp;simp[SV.pure,SV.pure0]at hp
 |omp h=>intro hp;simp[SV.pure,SV.pure0]at hp
 |fp h=>intro hp;simp[SV.pure,SV.pure0]at hp
 |mp r g hb hm hl c ih=>
  exact Db
 |sl a b o m g hm hx d b7 hl c ih=>
  exact λ_=>.sl a b o m g hm hx d (λf=>by obtain⟨e,hb,k⟩:=b7 f;exact⟨e,λhh=>hb (hH _ hh),k⟩) hl (λi j s hi hs=>ih i j s hi hs (Jp.1 (hl i hi).2 s (Jj hs)))
 |rel b o g hi hb b7 hl c ih=>
  exact Dc
 |agg vs hl c ih=>intro hp;simp[SV.pure,SV.pure0]at hp
 |tup vs hl c ih=>intro hp;simp[SV.pure,SV.pure0]at hp
 |clo vs hl c ih=>
  exact Cq
 |ub l n=>exact λ_=>.ub l n
 |any=>exact λ_=>.any
theorem HM(hH:∀b,H' b->H b){s:SV}{v:Value}(h:D w H μ s v):s.pure=true->D w H' μ' s v:=by
 induction h with
 |int=>exact λ_=>.int
 |bool=>exact λ_=>.bool
 |con=>exact λ_=>.con
 |own h=>intro hp;simp[SV.pure,SV.pure0]at hp
 |osl h=>intro hp;simp[SV.pure,SV.pure0]at hp
 |oel h=>intro hp;simp[SV.pure,SV.pure0]at hp
 |omp h=>intro hp;simp[SV.pure,SV.pure0]at hp
 |fp h=>intro hp;simp[SV.pure,SV.pure0]at hp
 |mp r g hb hm hl c ih=>
  exact Db
 |sl a b o m g hm hx d b7 hl c ih=>
  exact λ_=>.sl a b o m g hm hx d (λf=>by obtain⟨e,hb,k⟩:=b7 f;exact⟨e,λhh=>hb (hH _ hh),k⟩) hl (λi j s hi hs=>ih i j s hi hs (Jp.1 (hl i hi).2 s (Jj hs)))
 |rel b o g hi hb b7 hl c ih=>
  exact Dc
 |agg vs hl c ih=>intro hp;simp[SV.pure,SV.pure0]at hp
 |tup vs hl c ih=>intro hp;simp[SV.pure,SV.pure0]at hp
 |clo vs hl c ih=>
  exact Cq
 |ub l n=>exact λ_=>.ub l n
 |any=>exact λ_=>.any
end
def BK:Mu:=λ_=>none
def c82(P:Program)(glob:Nat->Option SV)(f:FuncId)(c:List SV->Option (Prop×SV)):Prop:=
 (∃fn,P.funcs[f]?=some fn/\(fn.name== "runtime.NumGoroutine")=false/\fn.body.isNone=false)/\
 ∀(A:Nat->Prop) (w:World) (args:List SV) (vals:List Value) (pre:Prop) (s:SV),(∀b,A b->b<w.heap.size)->(∀g t,glob g=some t->t.pure=true/\D w A BK t (.pointer (some ⟨g,0,none⟩)))->
  DL w A BK args vals->c args=some (pre,s)->pre->
  Calls P f vals.toArray w λe w'=>∃v,e=.returned v/\D w' A BK s v/\Fr w.heap.size (λ_=>False) w w'
section
variable{E:Env}{w:World}{μ:Mu}{B0:Nat}{X A:Nat->Prop}{own ownN:List Blk}
theorem c60(g:Own B0 X A w μ ownN)(u:∀(k:Nat) (bl:Blk),own[k]?=some bl->ownN[k]?=some bl){A':Nat->Prop}(v:∀b,A' b->held A μ b)(x:∀b,A' b->A b){k n m:Nat}{a:Option Addr}(h:μ k=some (.slice a n m)){T:TypeId}{sz l:Nat}{f:Nat->List SV}{c:Option Nat}
 (y:own[k]?=some (.row T sz l f c)):D w A' BK (.sl sz l f c) (.slice a n m):=by
 obtain⟨bl,e,z⟩:=g.blk _ _ h;rw[u _ _ y]at e;cases e;obtain⟨a',m',B,hn,hm,hc,hl,C⟩:=z;cases B;rcases C with rfl|⟨b,o,q,E,rfl,r,ho,h1,F⟩
 .exact Cu
 .have G:¬A' b:=λH=>(g.rng _ _ b h (KA E)).2.1 (x b H);have t:∀i j,i<n->j<sz->o+i*sz+j<q.length:=λi j hi d=>by
   have:=MA hi d;have:n*sz<=m*sz:=Ks _ hn;omega
  refine .sl _ b o m (λi j=>q.getD (o+i*sz+j) undef) hn hm hc (λ_=>⟨rfl,G,PY r,λi j hi d=> ?_⟩) hl (λi j s hi hs=> ?_)
  .have:=t i j hi d;rw[SR r,Je this];simp only[J4,Je this];exact Cv
  .have d:j<sz:=Gf;have:=t i j hi d;simp only[J4,Je this];exact GN v (F i j s _ hi hs (Je this)) (Jp.1 (hl i hi).2 s (Jj hs))
theorem c6m(a:Own B0 X A w μ ownN)(l:∀(k:Nat) (bl:Blk),own[k]?=some bl->ownN[k]?=some bl){A':Nat->Prop}(m:∀b,A' b->held A μ b)(n:∀b,A' b->A b){k:Nat}{r:Option Nat}(h:μ k=some (.map r)){K:KT}{c:Bool}{has:List Int->Bool}{val:List Int->List SV}
 (o:own[k]?=some (.map K c has val)):D w A' BK (.mp K c has val) (.map r):=by
 obtain⟨bl,e,p⟩:=a.blk _ _ h;rw[l _ _ o]at e;cases e;obtain⟨d,g,t,u,f,x⟩:=p;cases t;exact .mp d g (λy=>(a.rng _ _ d h (.inl rfl)).2.1 (n _ y)) u f (λq i s v j hs z=>GN m (x q i s v j hs z) (Jp.1 (f q j).2 s (Jj hs)))
theorem b7d(l:Own B0 X A w μ ownN)(n:∀(k:Nat) (bl:Blk),own[k]?=some bl->ownN[k]?=some bl){A':Nat->Prop}(f:∀b,A' b->held A μ b)(q:∀b,A' b->A b){s:SV}{v:Value}(d:D w (held A μ) μ s v):D w A' BK (s.ro00 own) v:=by
 have c:s.pure=true->s.ro00 own=s->D w A' BK (s.ro00 own) v:=λu e=>by rw[e];exact GN f d u
 cases d with
 |osl h=>
  simp only[SV.ro00];split
  .rename_i j;exact c60 l n f q h j
  .exact .any
 |fp h=>exact .any
 |omp h=>
  simp only[SV.ro00];split
  .rename_i j;exact c6m l n f q h j
  .exact .any
 |own h=>exact .any
 |oel h=>exact .any
 |agg vs hl d=>exact .any
 |tup vs hl d=>exact .any
 |clo vs hl d=>
  simp only[SV.ro00];split
  .rename_i t;have x:=List.isEmpty_iff.1 t;subst x;exact Cg
  .exact .any
 |int=>exact c rfl rfl
 |bool=>exact c rfl rfl
 |con=>exact c rfl rfl
 |sl a b o m g y hx t z hl d=>exact c rfl rfl
 |rel b o g hi B z hl d=>exact c rfl rfl
 |mp r g B y hl d=>exact c rfl rfl
 |ub C E=>exact .ub C E
 |any=>exact .any
theorem c15(own:List Blk)(s:SV):(s.ro00 own).pure=true:=by
 cases s with
 |osl k=>simp only[SV.ro00];split<;>rfl
 |omp k=>simp only[SV.ro00];split<;>rfl
 |clo f cs=>simp only[SV.ro00];split<;>rfl
 |_=>rfl
theorem d89(own:List Blk)(s:SV):(s.ro0 own).pure=true:=by
 unfold SV.ro0;split
 .split<;>rfl
 .exact c15 own s
theorem b76(l:Own B0 X A w μ ownN)(q:∀(k:Nat) (bl:Blk),own[k]?=some bl->ownN[k]?=some bl){A':Nat->Prop}(r:∀b,A' b->A b){k off b:Nat}(h:μ k=some (.pointer (some ⟨b,0,none⟩))){T:TypeId}{cs:List SV}(t:own[k]?=some (.cells T cs))
 {g:SV->SV} (u:∀s,(g s).pure=true) (y:∀s v,D w (held A μ) μ s v->D w A' BK (g s) v):D w A' BK (.rel cs.length 1 (λ_=>cs.map g) 0 off) (.pointer (some ⟨b,off,none⟩)):=by
 obtain⟨bl,e,z⟩:=l.blk _ _ h;rw[q _ _ t]at e;cases e;obtain⟨b',c,B,m,C,E,F⟩:=z;cases B;have:=D.rel (w:=w) (H:=A') (μ:=BK) (sz:=cs.length) (n:=1) (i:=0) (off:=off) (f:=λ_=>cs.map g) b 0 (λ_ j=>c.getD j undef) E4 (λG=>(l.rng _ _ b h (.inl rfl)).2.1 (r _ G)) ⟨PY m,λi j I hj=> ?_⟩
  (λi _=>⟨E6,by simp only[List.all_map,Jp];intro x _;exact u x⟩) (λi j s I hs=> ?_)
 .simpa using this
 .have d:i=0:=E4;subst d;have a:j<c.length:=E4;have J:(0+0*cs.length+j)=j:=E4;rw[J,SR m,Je a];simp only[J4,Je a];exact⟨Ji,E _ (Kd a)⟩
 .simp only[Iw]at hs;obtain⟨K,o,rfl⟩:=hs;have a:j<c.length:=by rw[C];exact(Jh.1 o).1
  simp only[J4,Je a];exact y _ _ (F j K _ o (Je a))
theorem d0x(c:Own B0 X A w μ ownN)(d:∀(k:Nat) (bl:Blk),own[k]?=some bl->ownN[k]?=some bl){A':Nat->Prop}(f:∀b,A' b->held A μ b)(e:∀b,A' b->A b){s:SV}{v:Value}(a:D w (held A μ) μ s v):D w A' BK (s.ro0 own) v:=by
 unfold SV.ro0;split
 .rename_i k off;split
  .rename_i T cs g;cases a with
   |own h=>exact b76 c d e h g (c15 own) (λs v a=>b7d c d f e a)
  .exact .any
 .exact b7d c d f e a
theorem c2e(j:Own B0 X A w μ ownN)(l:∀(k:Nat) (bl:Blk),own[k]?=some bl->ownN[k]?=some bl){A':Nat->Prop}(n:∀b,A' b->held A μ b){s t:SV}{v:Value}(d:D w (held A μ) μ s v)(hr:s.ro1 own=some t)(q:s.isOsl0=true->∀b,A' b->A b):D w A' BK t v:=by
 have c:s.pure=true->t=s->D w A' BK t v:=λy e=>by subst e;exact GN n d y
 cases d with
 |osl h=>
  simp only[SV.ro1]at hr;split at hr
  .rename_i f;cases hr;exact c60 j l n (q rfl) h f
  .cases hr
 |omp h=>
  simp only[SV.ro1]at hr;split at hr
  .rename_i f;cases hr;exact c6m j l n (q rfl) h f
  .cases hr
 |own h=>
  rename_i k off b;simp only[SV.ro1]at hr;split at hr
  .rename_i T cs f;cases hr;have u:=q rfl;exact b76 j l u h f (d89 own) (λs v d=>d0x j l n u d)
  .cases hr
 |int=>exact c rfl Fc
 |bool=>exact c rfl Fc
 |ub h1 h2=>exact c rfl Fc
 |con=>exact c rfl Fc
 |sl a b o m g z hx x B hl d=>exact c rfl Fc
 |rel b o g hi C B hl d=>exact c rfl Fc
 |mp r g C z hl d=>exact c rfl Fc
 |clo vs hl d=>
  simp only[SV.ro1]at hr;split at hr
  .rename_i x;cases hr;have E:=List.isEmpty_iff.1 x;subst E;exact Cg
  .cases hr
 |_=>simp[SV.ro1]at hr
theorem c6h(j:Own B0 X A w μ ownN)(l:∀(k:Nat) (bl:Blk),own[k]?=some bl->ownN[k]?=some bl){A':Nat->Prop}(m:∀b,A' b->held A μ b){s t:SV}{v:Value}(c:D w (held A μ) μ s v)(a:s.ro own=some t)(n:s.isOsl=true->∀b,A' b->A b):D w A' BK t v:=by
 unfold SV.ro at a;split at a
 .rename_i f d;simp only[Jk]at a;obtain⟨ts,q,rfl⟩:=a;obtain⟨l1,r⟩:=OM q;cases c with
  |clo u x c=>
   refine .clo u (by rw[x,l1]) (λi t v ht z=> ?_);have g:i<d.length:=H4;obtain⟨y,o,e⟩:=r i _ (Je g);rw[ht]at o;cases o;exact c2e j l m (c i _ v (Je g) z) e (λh=>n (by simp only[SV.isOsl,Jz];exact⟨_,Kd g,h⟩))
 .rename_i B;refine c2e j l m c a (λh=>n ?_);unfold SV.isOsl;split
  .rename_i f d;exact absurd rfl (B f d)
  .exact h
theorem Wa(g:Own B0 X A w μ ownN)(j:∀(k:Nat) (bl:Blk),own[k]?=some bl->ownN[k]?=some bl){A':Nat->Prop}(l:∀b,A' b->held A μ b){s t:SV}{v:Value}(c:D w (held A μ) μ s v)(a:s.roA own=some t)(m:s.hasOsl=true->∀b,A' b->A b):D w A' BK t v:=by
 unfold SV.roA at a;split at a
 .rename_i d;simp only[Jk]at a;obtain⟨ts,o,rfl⟩:=a;obtain⟨l1,q⟩:=OM o;cases c with
  |agg r u c=>
   refine .agg r (by rw[u,l1]) (λi t v ht x=> ?_);have f:i<d.length:=H4;obtain⟨y,n,e⟩:=q i _ (Je f);rw[ht]at n;cases n;exact c6h g j l (c i _ v (Je f) x) e (λh=>m (by simp only[SV.hasOsl,Jz];exact⟨_,Kd f,h⟩))
 .rename_i z;exact c6h g j l c a (λh=>m (by
   unfold SV.hasOsl;split
   .rename_i d;exact absurd rfl (z d)
   .exact h))
def d0w(E:Env)(own:List Blk)(ρ:Operand->Option SV)(c:Call):Option (Prop×SV):=
 match c.callee with
 |.value f=>match ρ f with
  |some (.clo b a)=>(c.args.toList.mapM ρ).bind λd=>((d++a).mapM (SV.roA own)).bind λe=>(E.C b).bind λk=>(k e).bind λr=>
   if !((d++a).any SV.hasOsl)||r.2.flat2||E.fs b then some r else none
  |_=>none
 |_=>none
def GJ(v:Value):Mu:=λk=>if k=0 then some v else none
def f54(P:Program)(glob:Nat->Option SV)(f:FuncId)(e:KZ):Prop:=
 (∃fn,P.funcs[f]?=some fn/\(fn.name== "runtime.NumGoroutine")=false/\fn.body.isNone=false)/\
 ∀(A:Nat->Prop) (w:World) (v:Value) (T:TypeId) (sz n:Nat) (g:Nat->List SV) (c:Option Nat) (rest:List SV) (vals:List Value) (pre:Prop) (g':Nat->List SV) (r:Bool),
  (∀b,A b->b<w.heap.size)->(∀b,CG v b->b<w.heap.size/\¬A b)->(∀q t,glob q=some t->t.pure=true/\D w (held A (GJ v)) BK t (.pointer (some ⟨q,0,none⟩)))->
  DE w (held A (GJ v)) (GJ v) v (.row T sz n g c)->DL w (held A (GJ v)) BK rest vals->e T sz n g rest=some (pre,g',r)->pre->
  Calls P f (v::vals).toArray w λx w'=>∃res,x=.returned res/\(r=true->res=v)/\(r=false->res=.tuple #[])/\DE w' (held A (GJ v)) (GJ v) v (.row T sz n g' c)/\Fr w.heap.size (λb=>CG v b) w w'
def c7r(P:Program)(glob:Nat->Option SV)(f:FuncId)(c:List SV->Option (Prop×SV)):Prop:=
 ∀(A:Nat->Prop) (w:World) (a:List SV) (d:List Value) (h:Prop) (s:SV),(∀b,A b->b<w.heap.size)->(∀g t,glob g=some t->t.pure=true/\D w A BK t (.pointer (some ⟨g,0,none⟩)))->
  DL w A BK a d->c a=some (h,s)->h->
  Calls P f d.toArray w λe i=>∃v,e=.returned v/\D i (λb=>b<w.heap.size) BK s v/\Fr w.heap.size (λ_=>False) w i
def VC(μ:Mu)(b:Nat):Prop:=∃k x,μ k=some x/\CG x b
def d4c(P:Program)(glob:Nat->Option SV)(f:FuncId)(h:HK):Prop:=
 (∃fn,P.funcs[f]?=some fn/\(fn.name== "runtime.NumGoroutine")=false/\fn.body.isNone=false)/\
 ∀(A:Nat->Prop) (w:World) (args:List SV) (vals:List Value) (own:List Blk) (μ:Mu) (r:HRes),(∀b,A b->b<w.heap.size)->(∀g t,glob g=some t->t.pure=true/\D w (held A μ) BK t (.pointer (some ⟨g,0,none⟩)))->
  Own 0 (λ_=>True) A w μ own->(∀k,own.length<=k->μ k=none)->DL w (held A μ) μ args vals->h args own=some r->r.pre->
  Calls P f vals.toArray w λx w'=>∃v μ',x=.returned v/\Own w.heap.size (VC μ) A w' μ' r.own/\(∀k,r.own.length<=k->μ' k=none)/\D w' (held A μ') μ' r.res v/\
   (∀k x,k<own.length->r.chg.contains k=false->μ k=some x->μ' k=some x)/\Fr w.heap.size (VC μ) w w'
def XSound(E:Env):Prop:=∀f e,E.X f=some e->f54 E.P E.glob f e
def GM(E:Env):Prop:=(∀f c,E.C f=some c->c82 E.P E.glob f c/\(E.fs f=true->c7r E.P E.glob f c))/\XSound E/\∀f h,E.Hc f=some h->d4c E.P E.glob f h
theorem c5r{H:Nat->Prop}{xs b:List SV}{us vs:List Value}(h:DL w H μ xs us)(k:DL w H μ b vs):DL w H μ (xs++b) (us++vs):=by
 refine⟨by simp[h.1,k.1],λi s v hs a=> ?_⟩;by_cases c:i<xs.length
 .rw[Jr c]at hs;rw[Jr (by rw[h.1];exact c)]at a;exact h.2 i s v hs a
 .rw[Jw E4]at hs;rw[Jw (by rw[h.1];omega),h.1]at a;exact k.2 _ s v hs a
theorem c96(Z:GM E)(z:Own B0 X A w μ ownN)(bf:∀(k:Nat) (bl:Blk),own[k]?=some bl->ownN[k]?=some bl)(n:∀g s,E.glob g=some s->s.pure=true/\D w (held A μ) μ s (.pointer (some ⟨g,0,none⟩))){a:Act}{ρ:Operand->Option SV}
 (B:∀(x:Operand) (s:SV),ρ x=some s->D w (held A μ) μ s (a.eval x)) {o:Oper} {c:Call} (ho:o.op=.call c) {C:Prop} {s:SV} (l:d0w E own ρ c=some (C,s)) (O:C):
 ∃f r,(execOp a.eval o).run E.P w=.ok (.enter f r) w/\Calls E.P f r w λe F=>∃v,e=.returned v/\D F (held A μ) μ s v/\Fr w.heap.size (λ_=>False) w F:=by
 unfold d0w at l;split at l;rotate_left
 .cases l
 rename_i f hf;split at l;rotate_left
 .cases l
 rename_i G d H;simp only[Jn]at l;obtain⟨Q,kq,M,qg,k,R,⟨p,t⟩,S,l⟩:=l;split at l;rotate_left
 .cases l
 rename_i T;simp only[Ir]at l;obtain⟨rfl,rfl⟩:=l;have U:=B _ _ H;generalize s7:a.eval f=vf at U;obtain⟨⟨⟨fn,h1,h2,h3⟩,hS⟩,W5⟩:=Z.1 G k R;cases U with
 |clo u fj pv=>
  have V:=c5r (Tm (a:=a) B kq) (⟨fj,pv⟩:DL w (held A μ) μ d u);refine⟨G,((c.args.toList.map a.eval)++u).toArray,?_,?_⟩
  .have hm:c.args.map a.eval=(c.args.toList.map a.eval).toArray:=Fb;simp only[execOp,ho,resolve,hf,s7,Deferred.ofValue,hm,Is,invoke,callFunc,run_program,h1,h2,Iz,h3];simp
  .obtain⟨l1,l2⟩:=OM qg;have conv:∀N:Nat->Prop,(∀b,N b->held A μ b)->(((Q++d).any SV.hasOsl)=true->∀b,N b->A b)->DL w N BK M ((c.args.toList.map a.eval)++u):=by
    intro N hA jb;refine⟨by rw[V.1,l1],λi s v hs hv=> ?_⟩;have b6:i<(Q++d).length:=Gk;obtain⟨y,W,e⟩:=l2 i _ (Je b6);rw[hs]at W;cases W;exact Wa z bf hA (V.2 i _ v (Je b6) hv) e (λh=>jb I3)
   have Y:∀b,held A μ b->b<w.heap.size:=λb I=>by
    rcases I with I|⟨k,x,R,hx⟩
    .exact z.bnd b I
    .exact(z.rng k x b R hx).1
   cases wk:(Q++d).any SV.hasOsl with
   |false=>
    refine(hS (held A μ) w M _ p t Y (λg q m=>⟨(n g q m).1,GN (λ_ h=>h) (n g q m).2 (n g q m).1⟩) (conv _ (λ_ h=>h) (λh=>by rw[wk]at h;cases h)) S O).mono ?_;rintro e F ⟨v,rfl,J,K⟩;exact⟨v,rfl,J.keep ⟨Jm _,λ_ _ _=>rfl,λ_ _ h=>h,λj x hx=>by cases hx⟩,K⟩
   |true=>
    rw[wk]at T;simp only[Bool.not_true,Nj,Kk]at T;rcases T with dq|L;rotate_left
    .refine(W5 L A w M _ p t z.bnd (λg q m=>⟨(n g q m).1,GN (λ_ h=>.inl h) (n g q m).2 (n g q m).1⟩) (conv A (λ_ h=>.inl h) (λ_ _ h=>h)) S O).mono ?_;rintro e F ⟨v,rfl,J,K⟩;exact⟨v,rfl,J.keep ⟨Jm _,λ_ _ _=>rfl,λb _ I=>Y b I,λj x hx=>by cases hx⟩,K⟩
    refine(hS A w M _ p t z.bnd (λg q m=>⟨(n g q m).1,GN (λ_ h=>.inl h) (n g q m).2 (n g q m).1⟩) (conv A (λ_ h=>.inl h) (λ_ _ h=>h)) S O).mono ?_;rintro e F ⟨v,rfl,J,K⟩;exact⟨v,rfl,f6e dq J,K⟩
theorem Fr.keeps{w':World}(h:Fr w.heap.size (λ_=>False) w w'){H:Nat->Prop}:Keeps w w' H H μ μ:=
 ⟨h.size,λb a _=>h.block b a (λh=>h),λ_ _ h=>h,λ_ _ h=>h⟩
theorem Own.calls{w':World}(c:Own B0 X A w μ own)(h:Fr w.heap.size (λ_=>False) w w'):Own B0 X A w' μ own:=
 ⟨λk x hx=>by
   obtain⟨d,e,a⟩:=c.blk k x hx;exact⟨d,e,a.keep h.keeps (λb a=>h.block b (c.rng k x b hx a).1 (λh=>h))⟩,c.inj,
   λk x b f a=>by obtain⟨g,i⟩:=c.rng k x b f a;exact⟨Kb g h.size,i⟩,λb a=>Kb (c.bnd b a) h.size⟩
end
def YL(x y:Option SV):Option SV:=match x with
 |some s=>some s
 |none=>y
def d46(b:Bool)(x y:Operand)(a c:SV):Option SV:=match a,c with
 |.bool s,.bool t=>match x,y with
  |.const (.bool true),_=>some (.bool (b||t))
  |_,.const (.bool false)=>some (.bool (b&&s))
  |_,_=>some (.bool (bif b then s else t))
 |.int k n,.int d m=>if k=d then some (.int k (bif b then n else m))else none
 |_,_=>none
def f4u(E:Env)(ρ:List Entry)(g:Option (Nat×Bool))(c x y:Operand):Option (Prop×SV):=match c with
 |.tmp a=>match CE E ρ g (.tmp a)with
  |some (.bool b)=>(YL (CE E ρ g x) (CE E ρ (some (a,true)) x)).bind λd=>(YL (CE E ρ g y) (CE E ρ (some (a,false)) y)).bind λe=>(d46 b x y d e).map λs=>(True,s)
  |_=>none
 |_=>none
def Ra(E:Env)(st:St)(g:Option (Nat×Bool))(a:Op):Option (Prop×SV):=match a with
 |.pick c x y=>f4u E st.ρ g c x y
 |.call c=>match c.callee with
  |.value _=>d0w E st.own (CE E st.ρ g) c
  |_=>Yg E st.own (CE E st.ρ g) a
 |a=>Yg E st.own (CE E st.ρ g) a
def WP(ρ:List Entry):Nat->Nat->Bool->Option Prop
 |0,_,_=>none
 |n+1,g,p=>match CD g ρ with
  |some e=>match e.sv with
   |.bool b=>match e.guard with
    |none=>some (b=p)
    |some (a,d)=>(WP ρ n a d).map λc=>c/\b=p
   |_=>none
  |none=>none
def JN(nt:Nat)(d:Option Nat):Bool:=match d with
 |some d=>decide (d<nt)
 |none=>true
def c8k(E:Env)(ρ:Operand->Option SV)(T:TypeId)(r:Option Operand):Option Blk:=
 match E.P.underlying T with
 |some (.map _ a)=>(E.kt T).bind λK=>(IW E.P a).bind λb=>(Oz E.P a).bind λz=>
  match r with
  |none=>some (.map K b (λ_=>false) (λ_=>z))
  |some x=>match ρ x with
   |some (.int _ _)=>some (.map K b (λ_=>false) (λ_=>z))
   |_=>none
 |_=>none
def f5v:SV->Bool
 |.agg _=>true
 |_=>false
def b9q(E:Env)(own:List Blk)(T:TypeId)(m i x:SV):Option (List Blk):=
 match E.P.underlying T,m with
 |some (.map _ _),.omp k=>match own[k]? with
  |some (.map K b a val)=>if E.kt T=some K/\f5v x=b then(Wb K i).bind λq=>x.cells.bind λc=>
   if c.all SV.pure then some (own.set k (.map K b (JX a q) (λp=>DW (decide (p=q)) c (val p))))else none
   else none
  |_=>none
 |_,_=>none
def f0j(E:Env)(nt:Nat)(ops:Array Oper)(st:St)(o:Oper):Option (Prop×St):=
 if !JN nt o.dst then none else
 match o.guard with
 |some (j,p)=>match o.dst,(ops[j]?).bind (·.dst)with
  |some d,some g=>if g<nt/\g≠d then(WP st.ρ 5 g p).bind λc=>(Ra E st (some (g,p)) o.op).map λr=>(c->r.1,{st with ρ:=KJ (some d) (some (g,p)) r.2 st.ρ})else none
  |_,_=>none
 |none=>match o.op with
  |.store T p x=>(CE E st.ρ none p).bind λi=>(CE E st.ρ none x).bind λa=>(TP E.P st.own T i a).bind λr=>if o.dst=none then some (r.1,{st with own:=r.2})else none
  |.alloc _|.box _ _|.buildSlice _ _ _|.makeSlice _ _ _=>(WO E.P st.own (CE E st.ρ none) o.op).map λr=>(r.1,{ρ:=KJ o.dst none r.2.1 st.ρ,own:=st.own++[r.2.2]})
  |.makeMap T r=>(c8k E (CE E st.ρ none) T r).map λb=>(True,{ρ:=KJ o.dst none (.omp st.own.length) st.ρ,own:=st.own++[b]})
  |.mapUpdate T m k x|.insert T m k x=>(CE E st.ρ none m).bind λl=>(CE E st.ρ none k).bind λsk=>(CE E st.ρ none x).bind λa=>(b9q E st.own T l sk a).bind λe=>if o.dst=none then some (True,{st with own:=e})else none
  |.call {callee:=.builtin .append,args:=⟨[x,y]⟩,argTypes:=⟨[T,U]⟩}=>if T=U then(CE E st.ρ none x).bind λa=>(CE E st.ρ none y).bind λn=>(TG E.P st.own T a n).bind λr=>
   if !r.2.2.2&&E.ak r.2.1 then none else some (r.1,{ρ:=KJ o.dst none (.osl r.2.1) (if r.2.2.2 then st.ρ else UD [r.2.1] st.ρ),own:=r.2.2.1})else none
  |.slice T x f h none=>(match CE E st.ρ none x with
   |some (.osl k)=>(b5q E.P st.own T k (PW (CE E st.ρ none) f) (PW (CE E st.ρ none) h)).bind λr=>if E.ak k then none else some (r.1,{ρ:=KJ o.dst none (.osl k) (UD [k] st.ρ),own:=r.2})
   |_=>(Ra E st none (.slice T x f h none)).map λr=>(r.1,{st with ρ:=KJ o.dst none r.2 st.ρ}))
  |q=>(Ra E st none q).map λr=>(r.1,{st with ρ:=KJ o.dst none r.2 st.ρ})
section
variable{E:Env}{B0:Nat}{X A:Nat->Prop}{w0:World}{nt:Nat}{st:St}{a:Act}{w:World}{μ:Mu}
theorem SD.opds(h:SD E B0 X A w0 nt st a w μ){g:Option (Nat×Bool)}(c:∀q b,g=some (q,b)->a.tmps.getD q undef=.bool b):∀(x:Operand) (s:SV),CE E st.ρ g x=some s->D w (held A μ) μ s (a.eval x):=
 Qv (λn s d=>(h.glo n s d).2) h.env c
theorem c1h{H:Nat->Prop}{b:Bool}{x y:Operand}{e f s:SV}{u v:Value}(hx:b=true->D w H μ e u)(c:b=false->D w H μ f v)(g:∀z,x=.const z->u=z)(d:∀z,y=.const z->v=z)(a:d46 b x y e f=some s):
 D w H μ s (if b then u else v):=by
 unfold d46 at a;split at a
 .rename_i s1 t1;split at a
  .cases a;have:=g _ rfl;subst this;cases b
   .have:=c rfl;cases this;exact .bool
   .exact .bool
  .cases a;have:=d _ rfl;subst this;cases b
   .exact .bool
   .have:=hx rfl;cases this;exact .bool
  .cases a;cases b
   .have:=c rfl;cases this;exact .bool
   .have:=hx rfl;cases this;exact .bool
 .split at a
  .rename_i h;cases a;subst h;cases b
   .have:=c rfl;cases this;exact .int
   .have:=hx rfl;cases this;exact .int
  .cases a
 .cases a
theorem d10{x y:Option SV}{s:SV}(h:YL x y=some s):x=some s\/y=some s:=by unfold YL at h;split at h<;>simp_all
theorem b1x(T:EnvOK E)(U:GM E){ρ:List Entry}{own j:List Blk}(L:Own B0 X A w μ j)(M:∀(k:Nat) (bl:Blk),own[k]?=some bl->j[k]?=some bl)(N:∀g s,E.glob g=some s->s.pure=true/\D w (held A μ) μ s (.pointer (some ⟨g,0,none⟩)))
 (V:EN w (held A μ) μ a.tmps ρ) {g:Option (Nat×Bool)} (F:∀q b,g=some (q,b)->a.tmps.getD q undef=.bool b) {o:Oper} {m:Prop} {s:SV} (d:Ra E ⟨ρ,own⟩ g o.op=some (m,s)) (O:m)
 {K:Act->World->Prop} {Q:Exit->Act->World->Prop} (R:∀v t,D t (held A μ) μ s v->Fr w.heap.size (λ_=>False) w t->K (a.put o.dst v) t):o.wp E.P a w K Q:=by
 have opds:∀{g:Option (Nat×Bool)},(∀q b,g=some (q,b)->a.tmps.getD q undef=.bool b)->∀(x:Operand) (s:SV),CE E ρ g x=some s->D w (held A μ) μ s (a.eval x):=λF=>Qv (λn s W=>(N n s W).2) V F;have i:=opds F;have h:∀v,(execOp a.eval o).run E.P w=.ok (.value v) w->D w (held A μ) μ s v->o.wp E.P a w K Q:=by intro v u B;unfold Oper.wp;rw[u];exact R v w B ⟨rfl,rfl,rfl,λ_=>Jm _,Jm _,λ_ _ _=>rfl⟩
 have val:Yg E own (CE E ρ g) o.op=some (m,s)->o.wp E.P a w K Q:=by intro d;obtain⟨v,u,B⟩:=d3p T L M i d O;exact h v u B
 unfold Ra at d;split at d
 .rename_i c x y G;unfold f4u at d;split at d;rotate_left
  .cases d
  rename_i C;split at d;rotate_left
  .cases d
  rename_i b Y;simp only[Jn,Iq]at d;obtain⟨r,hx,Z,hy,s',hs,rfl,rfl⟩:=d;have wr:=i _ _ Y;generalize S:a.eval (.tmp C)=cv at wr;cases wr;have H:a.tmps.getD C undef=.bool b:=S;have l:∀(p:Bool) (x:Operand) (r:SV),YL (CE E ρ g x) (CE E ρ (some (C,p)) x)=some r->b=p->D w (held A μ) μ r (a.eval x):=by
   intro p x r hx I;rcases d10 hx with hx|hx
   .exact i x r hx
   .exact opds (g:=some (C,p)) (λq p' e=>by cases e;rw[H,I]) x r hx
  refine h (if b then a.eval x else a.eval y) ?_ (c1h (l true x r hx) (l false y Z hy) (λz J=>by subst J;rfl) (λz J=>by subst J;rfl) hs);simp only[execOp,G,S];cases b<;>simp[asBool]
 .rename_i c G;split at d
  .obtain⟨f,vals,u,hc⟩:=c96 U L M N i (o:=o) G d O;unfold Oper.wp;rw[u];refine hc.mono ?_;rintro e t ⟨v,rfl,B,bj⟩;exact R v t B bj
  .exact val d
 .rename_i op h1 h2;exact val d
theorem b80(e:EnvOK E)(f:GM E)(h:SD E B0 X A w0 nt st a w μ){g:Option (Nat×Bool)}(i:∀q b,g=some (q,b)->a.tmps.getD q undef=.bool b){o:Oper}{c:Prop}{s:SV}(j:Ra E st g o.op=some (c,s))(k:c)
 {K:Act->World->Prop} {Q:Exit->Act->World->Prop} (l:∀v d,D d (held A μ) μ s v->Fr w.heap.size (λ_=>False) w d->K (a.put o.dst v) d):o.wp E.P a w K Q:=
 b1x e f h.own (λ_ _ h=>h) h.glo h.env i j k l
theorem SD.put(h:SD E B0 X A w0 nt st a w μ){w':World}{μ':Mu}{own':List Blk}{c:List Entry}(l:Own B0 X A w' μ' own')(f:Fr B0 X w w')(m:∀g s,E.glob g=some s->s.pure=true/\D w' (held A μ') μ' s (.pointer (some ⟨g,0,none⟩)))
 (i:EN w' (held A μ') μ' a.tmps c) (n:∀k,own'.length<=k->μ' k=none) (o:∀k x,E.an k=some x->μ' k=some x) {d:Option Nat} (r:JN nt d=true) {s:SV} {v:Value} (t:D w' (held A μ') μ' s v):
 SD E B0 X A w0 nt {ρ:=KJ d none s c,own:=own'} (a.put d v) w' μ':=by
 refine⟨l,h.fr.trans f,Lk h.base f.size,m,?_,?_,?_,n,o⟩
 .cases d<;>exact h.dfr
 .cases d<;>simp[Act.put,h.size]
 .cases d with
  |none=>exact i
  |some d=>
   have j:d<a.tmps.size:=by rw[h.size];simpa[JN]using r
   refine i.put j (λq b e=>Eb) ?_;unfold CU;simp only;rw[Mo j,Jf rfl];exact t
theorem MZ{w':World}{μ':Mu}{H H':Nat->Prop}(b:Keeps w w' H H' μ μ')(h:∀g s,E.glob g=some s->s.pure=true/\D w H μ s (.pointer (some ⟨g,0,none⟩))):∀g s,E.glob g=some s->s.pure=true/\D w' H' μ' s (.pointer (some ⟨g,0,none⟩)):=
 λg s a=>⟨(h g s a).1,(h g s a).2.keep b⟩
theorem b1n{w':World}{μ':Mu}{H H':Nat->Prop}{k:List Nat}(b:Keeps' k w w' H H' μ μ')(h:∀g s,E.glob g=some s->s.pure=true/\D w H μ s (.pointer (some ⟨g,0,none⟩))):∀g s,E.glob g=some s->s.pure=true/\D w' H' μ' s (.pointer (some ⟨g,0,none⟩)):=
 λg s a=>⟨(h g s a).1,KF b (h g s a).2 (h g s a).1⟩
theorem b08{H:Nat->Prop}{tmps:Array Value}{ρ:List Entry}(o:EN w H μ tmps ρ):∀(n g:Nat) (p:Bool) (c:Prop),WP ρ n g p=some c->tmps.getD g undef=.bool p->c:=by
 intro n;induction n with
 |zero=>intro g p c h;simp[WP]at h
 |succ n q=>
  intro g p c h i;simp only[WP]at h;split at h;rotate_left
  .cases h
  rename_i e j;have hs:=ML j;have a:=o g e j;unfold CU at a;split at h;rotate_left
  .cases h
  rename_i b k;split at h
  .rename_i d;cases h;rw[d,k,hs,i]at a;simp only at a;cases a;rfl
  .rename_i l m d;simp only[Jk]at h;obtain⟨r,s,rfl⟩:=h;rw[d,k,hs,i]at a;simp only at a;by_cases f:tmps.getD l undef=.bool m
   .have:=a.1 f;cases this;exact⟨q l m r s f,rfl⟩
   .have:=a.2 f;cases this
theorem b7s{ops:Array Oper}{o:Oper}{j g:Nat}{p:Bool}(d:o.guard=some (j,p))(e:(ops[j]?).bind (·.dst)=some g)(f:g<a.tmps.size):
 Region.wanted o (yielded ops a.tmps)=true↔a.tmps.getD g undef=.bool p:=by
 simp only[Region.wanted,d,yielded,e,M0,Nb,Mh f,L4];split
 .rename_i b c;rw[K6]at c;rw[c];simp
 .rename_i i;simp only[M6];constructor
  .intro h;cases h
  .intro h;exact absurd (by rw[h]) (i p)
theorem d21(sz:Nat):∀(ps:List (Nat×Value)) (b:Nat) (vs:List Value),ps.map (·.1)=List.range' b ps.length->(∀p∈ps,p.2.cells.size=sz)->(b+ps.length)*sz<=vs.length->
 (∀v∈vs,v.oneCell'=true)->(∀p∈ps,∀v∈p.2.cells.toList,v.oneCell'=true)->
 ∃d:List Value,Instr.fill (λi=>some (i*sz,sz)) vs.toArray ps=some d.toArray/\d.length=vs.length/\(∀v∈d,v.oneCell'=true)/\
  (∀x,x<b*sz->d[x]?=vs[x]?)/\∀(i j:Nat) (p:Nat×Value),ps[i]?=some p->j<sz->d[(b+i)*sz+j]?=p.2.cells.toList[j]?:=by
 intro ps;induction ps with
 |nil=>intro b vs _ _ _ k _;exact⟨vs,rfl,rfl,k,λ_ _=>rfl,λi j p h=>Ee⟩
 |cons q ps t=>
  intro b vs g hs l k n;obtain⟨a,c⟩:=q;simp only[L3,Kx,List.range'_succ,List.cons.injEq]at g;obtain⟨rfl,g⟩:=g;have f:c.cells.size=sz:=hs (a,c) E6;have m:a*sz+sz<=vs.length:=by have:(a+1)*sz<=(a+(ps.length+1))*sz:=Ks _ E4;rw[Mw]at this;simp only[Kx]at l;omega
  obtain⟨d,u,w,y,o,z⟩:=t (a+1) (over vs (a*sz) c.cells.toList) g (λp e=>hs p (by simp[e])) (by rw[Of];simp only[Kx]at l;rw[show a+1+ps.length=a+(ps.length+1)from E4];exact l)
   (TL _ _ _ k (n (a,c) E6)) (λp e=>n p (by simp[e]))
  have r:=λx=>MX c.cells.toList vs (a*sz) x (by simp[f];exact m);refine⟨d,?_,by rw[w,Of],y,λx hx=> ?_,λi j p e s=> ?_⟩
  .simp only[Instr.fill];have A:¬(a*sz+c.cells.size>vs.toArray.size):=by rw[f];simp;exact m
   rw[Jg (by rw[K5 A];simp[f])];have:(c.cells.zipIdx.foldl (λB x=>B.setIfInBounds (a*sz+x.2) x.1) vs.toArray)=(over vs (a*sz) c.cells.toList).toArray:=by have:=b7g c.cells.toList 0 (a*sz) vs (by simp only[Lq,Mk,f];exact m);rw[<-Array.foldl_toList];simpa using this
   rw[this];exact u
  .rw[o x (by rw[Mw];omega),r,Jg E4]
  .match i with
   |0=>
    simp at e;subst e;rw[Mk,o _ (by rw[Mw];omega),r,Jf (by simp[f];exact s),Nat.add_sub_cancel_left]
   |i+1=>
    have:=z i j p (by simpa using e) s;rwa[show a+1+i=a+(i+1)from E4]at this
theorem b6j{own B:List Blk}(W:Own B0 X A w μ B)(Y:B0<=w.heap.size)(Z:μ own.length=none){ρ:Operand->Option SV}(F:∀(x:Operand) (s:SV),ρ x=some s->D w (held A μ) μ s (a.eval x)){o:Oper}{pre:Prop}{s:SV}{b:Blk}
 (f:WO E.P own ρ o.op=some (pre,s,b)) (M:pre) (d8:B[own.length]?=some b):
 ∃r G k,(execOp a.eval o).run E.P w=.ok (.value r) G/\After B0 X A w G μ k B/\(∀j,j≠own.length->k j=μ j)/\D G (held A k) k s r:=by
 unfold WO at f;split at f
 .rename_i T I;simp only[Jn]at f;obtain⟨z,hz,f⟩:=f;split at f;rotate_left
  .cases f
  rename_i N;simp only[Ir]at f;obtain⟨rfl,rfl,rfl⟩:=f;obtain⟨r,G,k,J,K,L,h4⟩:=c4a (P:=E.P) W Y Z hz N d8;exact⟨r,G,k,by simp[execOp,I,J],K,L,h4⟩
 .rename_i T x I;simp only[Jn]at f;obtain⟨sx,hx,t,fm,f⟩:=f;split at f;rotate_left
  .cases f
  rename_i N;simp only[Ir]at f;obtain⟨rfl,rfl,rfl⟩:=f;obtain⟨r,G,k,J,K,L,h4⟩:=d0q (P:=E.P) W Y Z (F _ _ hx) fm N d8;exact⟨r,G,k,by simp[execOp,I,J],K,L,h4⟩
 .rename_i T I;simp only[Jn,Iq]at f;obtain⟨e,hT,sz,bn,rfl,rfl,rfl⟩:=f;simp only[CP,Jk]at bn;obtain⟨g,O,rfl⟩:=bn;obtain⟨k,J,K,L⟩:=c49 W Y Z (vs:=[]) d8 (Jm _) (Js _) (λi hi=>absurd hi (K3 _)) E6 E6 (λi j s v hi=>absurd hi (K3 _));refine⟨_,_,k,?_,J,K,L⟩;simp[execOp,I,Instr.buildSlice,Kf (QT hT),HQ O,Instr.fill,newRow];congr 2;apply Array.ext';simp
 .rename_i T n d hnp I;simp only[Jn]at f;obtain⟨e,hT,sz,bn,z,hz,ps,W3,f⟩:=f;split at f;rotate_left
  .cases f
  rename_i N;obtain⟨zq,W7,bv,hbig,su,qi,bw⟩:=N;simp only[Ir]at f;obtain⟨rfl,rfl,rfl⟩:=f;simp only[CP,Jk]at bn;obtain⟨g,O,rfl⟩:=bn;obtain⟨inf',C,Q,m9,rfl,pd⟩:=SG (w:=w) (H:=held A μ) (μ:=μ) hz;rw[O]at Q;cases Q;have nh:C.cells.size=g.size:=Fj;obtain⟨l1,l2⟩:=OM W3;have be:ps.length=n:=by have:=Md List.length zq;simpa using this
  have part:∀(i:Nat) (q:Nat×Operand),d.toList[i]?=some q->∃t:List SV,ps[i]?=some (q.1,t)/\t.all SV.isCell=true/\t.all SV.pure=true/\t.length=g.size/\DL w (held A μ) μ t (a.eval q.2).cells.toList:=by intro i q R;obtain⟨y,hy,u⟩:=l2 i q R;simp only[Jn,Jk]at u;obtain⟨sq,W8,t,fm,rfl⟩:=u;have U:=Jp.1 bw _ (Jj hy);simp only[Ix]at U;exact⟨t,hy,U.1.1,U.1.2,U.2,(F _ _ W8).cells fm⟩
  have df:∀p∈d.toList.map λ(q:Nat×Operand)=>(q.1,a.eval q.2),p.2.cells.size=g.size/\∀v∈p.2.cells.toList,v.oneCell'=true:=by
   intro p M;obtain⟨i,hi,u⟩:=K7.1 M;have Q:i<d.toList.length:=Ez;obtain⟨t,V,c2,c3,c4,c5⟩:=part i _ (Je Q);have:p=(d.toList[i].1,a.eval d.toList[i].2):=by rw[<-u];simp
   subst this;exact⟨by have:=c5.1;rw[Lq]at this;exact this.trans c4,SN c5 c2⟩
  have ft:∀v∈C.cells.toList,v.oneCell'=true:=SN pd qi;have S:∀v∈(madeCells C.cells (n*g.size)).toList,v.oneCell'=true:=by intro v hv;obtain⟨i,hi,u⟩:=K7.1 hv;obtain⟨_,rfl⟩:=b35 _ _ i v (by rw[<-u];exact Je hi);have b6:i%C.cells.size<C.cells.size:=Nz _ E4;rw[Lx C.cells _ b6];exact ft _ E6
  have fw:(d.toList.map λ(q:Nat×Operand)=>(q.1,a.eval q.2)).length=n:=by rw[Ke,<-l1,be]
  have hfst:(d.toList.map λ(q:Nat×Operand)=>(q.1,a.eval q.2)).map (·.1)=List.range' 0 (d.toList.map λ(q:Nat×Operand)=>(q.1,a.eval q.2)).length:=by
   rw[fw,<-List.range_eq_range',<-zq];apply Ma;intro i;simp only[K1,Lh];cases R:d.toList[i]? with
   |none=>
    have:ps[i]?=none:=by rw[List.getElem?_eq_none_iff]at R⊢;rw[l1];exact R
    simp[this]
   |some q=>
    obtain⟨t,V,_⟩:=part i q R;simp[V]
  obtain⟨us,f1,f2,f3,f4,f5⟩:=d21 g.size _ 0 (madeCells C.cells (n*g.size)).toList hfst (λp M=>(df p M).1) (by rw[fw];simp[size_madeCells]) S (λp M=>(df p M).2);have du:∀i,i<n->∃(q:Nat×Operand) (t:List SV),d.toList[i]?=some q/\(ps.map (·.2)).getD i []=t/\t.all SV.pure=true/\t.length=g.size/\DL w (held A μ) μ t (a.eval q.2).cells.toList:=by
   intro i hi;have Q:i<d.toList.length:=by rw[<-l1,be];exact hi
   obtain⟨t,V,c2,c3,c4,c5⟩:=part i _ (Je Q);exact⟨_,t,Je Q,by simp[V],c3,c4,c5⟩
  obtain⟨k,J,K,L⟩:=c49 W Y Z (vs:=us) d8 (Jm _) (by
   have:n*1<=n*g.size:=Nat.mul_le_mul_left _ bv;simp only[maxLen];omega) (λi hi=>by obtain⟨q,t,_,u,e2,e3,_⟩:=du i hi;rw[u];exact⟨e3,e2⟩) (by rw[f2];simp[size_madeCells]) f3 (λi j s v hi hs hv=>by
   obtain⟨q,t,R,u,e2,e3,e4⟩:=du i hi;rw[u]at hs;have hj:j<g.size:=by rw[<-e3];exact(Jh.1 hs).1
   have:=f5 i j (q.1,a.eval q.2) (by rw[K1,R];rfl) hj;rw[Lg,hv]at this;exact e4.2 j s v hs this.symm)
  refine⟨_,_,k,?_,J,K,L⟩;have U:(d.map λ(q:Nat×Operand)=>(q.1,a.eval q.2))=(d.toList.map λq=>(q.1,a.eval q.2)).toArray:=by apply Array.ext';simp
  have t5:(Array.range (n*g.size)).map (λi=>C.cells[i%C.cells.size]!)=(madeCells C.cells (n*g.size)).toList.toArray:=by apply Array.ext';simp[madeCells]
  have hnz:¬(n*g.size=0):=by have:1*1<=n*g.size:=Nat.mul_le_mul W7 bv;omega
  simp only[execOp,I,U,Instr.buildSlice,Is,Kf (QT hT),HQ O,Jg (by omega:¬n*g.size>2^24),Jg hnz,Ux O m9,t5,f1,newRow];simp
 .rename_i T l c I;simp only[Jn]at f;obtain⟨e,hT,g,O,z,hz,f⟩:=f;split at f;rotate_left
  .cases f
  rename_i kl n kc m hl N;split at f;rotate_left
  .cases f
  rename_i dv;obtain⟨V,c2,c3,c4⟩:=dv;simp only[Ir]at f;obtain⟨rfl,rfl,rfl⟩:=f;obtain⟨p1,p2,p3,p4⟩:=M;obtain⟨r,G,k,J,K,L,h4⟩:=d0b (P:=E.P) (kl:=kl) (kc:=kc) W Y Z hT O hz V c2 c3 c4 p1 p2 p3 p4 d8;have d1:=F _ _ hl;have d2:=F _ _ N;generalize u:a.eval l=v1 at d1;generalize e2:a.eval c=v2 at d2;cases d1;cases d2;exact⟨r,G,k,by simp[execOp,I,u,e2,J],K,L,h4⟩
 .cases f
theorem b1u(_:EnvOK E){own c:List Blk}(t:Own B0 X A w μ c)(m:B0<=w.heap.size)(u:μ own.length=none){ρ:Operand->Option SV}(g:∀(x:Operand) (s:SV),ρ x=some s->D w (held A μ) μ s (a.eval x)){o:Oper}{T:TypeId}{r:Option Operand}(y:o.op=.makeMap T r){b:Blk}
 (d:c8k E ρ T r=some b) (B:c[own.length]?=some b):
 ∃v k f,(execOp a.eval o).run E.P w=.ok (.value v) k/\After B0 X A w k μ f c/\(∀j,j≠own.length->f j=μ j)/\D k (held A f) f (.omp own.length) v:=by
 unfold c8k at d;split at d;rotate_left
 .cases d
 rename_i ky elem C;simp only[Jn]at d;obtain⟨K,hK,F,qm,z,hz,d⟩:=d;have l:b=.map K F (λ_=>false) (λ_=>z)/\(Instr.makeMap T (r.map a.eval)).run E.P w=.ok (.map (some w.heap.size)) (w.alloc (.map #[] 0)):=by
  split at d
  .cases d;exact⟨rfl,by simp[Instr.makeMap]⟩
  .rename_i x;split at d
   .rename_i hx;cases d;have n:=g _ _ hx;generalize G:a.eval x=v at n;cases n;exact⟨rfl,by simp[Instr.makeMap,G,Kf C,asInt,asIntOf]⟩
   .cases d
 obtain⟨rfl,H⟩:=l;obtain⟨I,J⟩:=Tg t m u B (.map #[] 0) (.map (some w.heap.size)) (λb l=>(d2c.1 l).symm) (λf _ _=>⟨w.heap.size,λ_=>[],rfl,⟨#[],0,N9 w _,λe h=>Ee,λq h=>Eg,E6⟩,λq h=>Eg,λq i s v h=>Eg⟩);refine⟨.map (some w.heap.size),_,_,by simp[execOp,y,H],⟨I,Fr.alloc _ m,J⟩,λj hj=>Es,.omp Em⟩
theorem c05(hE:EnvOK E){own:List Blk}(d:Own B0 X A w μ own){T:TypeId}{m i x:SV}{vm N n:Value}{own':List Blk}(hm:D w (held A μ) μ m vm)(hi:D w (held A μ) μ i N)(hx:D w (held A μ) μ x n)(a:b9q E own T m i x=some own'):
 ∃O,(Instr.mapUpdate T vm N n).run E.P w=.ok () O/\After B0 X A w O μ μ own'/\own'.length=own.length:=by
 unfold b9q at a;split at a;rotate_left
 .cases a
 rename_i ky elem k Q;split at a;rotate_left
 .cases a
 rename_i K t f val R;split at a;rotate_left
 .cases a
 rename_i l;obtain⟨vg,G⟩:=l;simp only[Jn]at a;obtain⟨q,hq,J,u,a⟩:=a;split at a;rotate_left
 .cases a
 rename_i qf;cases a;obtain⟨ky',elem',S,ku⟩:=hE.kt T K vg;rw[Q]at S;cases S;obtain⟨rfl,mq⟩:=b1i hq hi;cases hm with
 |omp b=>
  obtain⟨bl,e,b9⟩:=d.blk _ _ b;rw[R]at e;cases e;obtain⟨r,g,e1,U,L,V⟩:=b9;cases e1;obtain⟨fj,pv⟩:=hx.cells u;have z:n=HZ t n.cells.toList:=by
   cases hx with
   |agg vs L V=>
    have:t=true:=G.symm;subst this;simp[HZ,Value.cells]
   |con=>
    have:t=false:=G.symm;subst this;simp only[SV.cells]at u;split at u
    .rename_i h1;cases n<;>first|rfl|simp[Value.oneCell']at h1
    .cases u
   |tup=>simp[SV.cells]at u
   |any=>simp[SV.cells]at u
   |fp h=>
    have:t=false:=G.symm;subst this;split at h
    .exact Cn
    .subst h;rfl
   |_=>
    have:t=false:=G.symm;subst this;rfl
  obtain⟨o,bp,vn⟩:=b2y (w:=w) z Q ku U mq;have b6:=U.lt;have H:Keeps w (MU w r o) (held A μ) (held A μ) μ μ:=⟨G3,λc _ l=>Sz (λe=>l (by subst e;exact .inr ⟨k,_,b,.inl rfl⟩)),λ_ _ h=>h,λ_ _ h=>h⟩
  have hB:=(d.rng k _ r b (.inl rfl)).2.2;refine⟨_,bp,⟨⟨λj y B=> ?_,d.inj,λj y c B hy=>by rw[WJ];exact d.rng j y c B hy,λc l=>by rw[WJ];exact d.bnd c l⟩,
   ⟨rfl,rfl,rfl,λ_=>Jm _,G3,λi hi hX=>Sz (λe=>by subst e;rcases hB with W|W;omega;exact hX W)⟩,H⟩,E6⟩
  have be:k<own.length:=(Jh.1 R).1;by_cases e:j=k
  .subst e;have:y=.map (some r):=by rw[b]at B;exact(Kh B).symm
   subst this;refine⟨.map K t (JX f q) (λp=>DW (decide (p=q)) J (val p)),by simp[be],r,λp=>if p=q then n.cells.toList else g p,rfl,vn,λp hp=> ?_,λp i s v hp hs z=> ?_⟩
   .obtain⟨Y,C,_⟩:=Xy (decide (p=q)) J (val p);simp only[Jq]at Y C;rw[Y];by_cases ep:p=q
    .simp only[ep,Kt];rw[ep]at C;simp only[Kt]at C;exact⟨fj,C qf⟩
    .have I:f p=true:=H5;simp only[ep,if_false];simp only[ep,if_false]at C;exact⟨(L p I).1,C (L p I).2⟩
   .obtain⟨Z,F,tx⟩:=(Xy (decide (p=q)) J (val p)).2.2 i s hs;simp only[Jq]at F;refine tx ?_;by_cases ep:p=q
    .simp only[ep,Kt]at F z;exact(pv i Z v F z).keep H
    .have I:f p=true:=H5;simp only[ep,if_false]at F z;exact(V p i Z v I F z).keep H
  .obtain⟨M,e0,pt⟩:=d.blk j y B;refine⟨M,by rw[Ju (Ne.symm e)];exact e0,pt.keep H (λc l=>Sz (λec=> ?_))⟩;subst ec;exact e (d.inj j k y _ c B b l (.inl rfl))
theorem b88(hE:EnvOK E)(hC:GM E)(h:SD E B0 X A w0 nt st a w μ){ops:Array Oper}{o:Oper}{F:Prop}{st':St}(f:f0j E nt ops st o=some (F,st'))(J:F)
 {K:Act->World->Prop} {Q:Exit->Act->World->Prop} (hK:∀a' w' l,SD E B0 X A w0 nt st' a' w' l->K a' w'):
 if Region.wanted o (yielded ops a.tmps)then o.wp E.P a w K Q else K (a.put o.dst undef) w:=by
 unfold f0j at f;split at f
 .cases f
 rename_i fx;have O:JN nt o.dst=true:=by simpa using fx
 split at f
 .rename_i j p ke;split at f;rotate_left
  .cases f
  rename_i d g pg zr;split at f;rotate_left
  .cases f
  rename_i b6;obtain⟨b6,ba⟩:=b6;simp only[Jn,Iq]at f;obtain⟨c,hc,⟨W,s⟩,hs,rfl,rfl⟩:=f;have Y:d<a.tmps.size:=by rw[h.size];simpa[JN,pg]using O
  have hw:=b7s (a:=a) ke zr (by rw[h.size];exact b6);split
  .rename_i dt;have R:=hw.1 dt;have g8:=b08 h.env 5 g p c hc R;refine b80 hE hC h (g:=some (g,p)) (λq b e=>by cases e;exact R) hs (J g8) (λv w' H C=>hK _ w' μ ?_);have hO:=h.own.calls C;have hk:Keeps w w' (held A μ) (held A μ) μ μ:=C.keeps;rw[pg];refine⟨hO,h.fr.trans ⟨C.os,C.tape,C.output,C.drawn,C.size,λi hi _=>C.block i (Kb hi h.base) (λh=>h)⟩,Lk h.base C.size,MZ hk h.glo,h.dfr,by simp[Act.put,h.size],?_,h.fresh,h.anc⟩;refine(h.env.keep hk).put Y (λq b e=>by cases e;exact ba) ?_;unfold CU;simp only;rw[Mo Y,Mo Y,Jf rfl,Jg ba];exact⟨λ_=>H,λZ=>absurd R Z⟩
  .rename_i dt;have R:¬a.tmps.getD g undef=.bool p:=λR=>dt (hw.2 R);refine hK _ w μ ?_;rw[pg];refine⟨h.own,h.fr,h.base,h.glo,h.dfr,by simp[Act.put,h.size],?_,h.fresh,h.anc⟩;refine h.env.put Y (λq b e=>by cases e;exact ba) ?_;unfold CU;simp only;rw[Mo Y,Mo Y,Jf rfl,Jg ba];exact⟨λhh=>absurd hh R,λ_=>rfl⟩
 .rename_i ke;rw[Jf F6];have t:=h.opds (g:=none) (λq b e=>Eb);have M:∀{s:SV} {F:Prop},Ra E st none o.op=some (F,s)->F->(∀a' w' l,SD E B0 X A w0 nt {st with ρ:=KJ o.dst none s st.ρ} a' w' l->K a' w')->o.wp E.P a w K Q:=by
   intro s F hs J hK;refine b80 hE hC h (g:=none) (λq b e=>Eb) hs J (λv w' H C=>hK _ w' μ ?_);have hk:Keeps w w' (held A μ) (held A μ) μ μ:=C.keeps;exact h.put (h.own.calls C) ⟨C.os,C.tape,C.output,C.drawn,C.size,λi hi _=>C.block i (Kb hi h.base) (λh=>h)⟩ (MZ hk h.glo) (h.env.keep hk) h.fresh h.anc O H
  have L:∀{r:Value} {w':World},(execOp a.eval o).run E.P w=.ok (.value r) w'->K (a.put o.dst r) w'->o.wp E.P a w K Q:=by intro r w' G hk;unfold Oper.wp;rw[G];exact hk
  split at f
  .rename_i T p x I;simp only[Jn]at f;obtain⟨sp,qt,sx,S,⟨W,own'⟩,N,f⟩:=f;split at f;rotate_left
   .cases f
   rename_i nj;simp only[Ir]at f;obtain⟨rfl,rfl⟩:=f;obtain⟨w',G,ha⟩:=b5m h.own (t _ _ qt) (t _ _ S) N J;have V:(execOp a.eval o).run E.P w=.ok .skip w':=by simp[execOp,I,G]
   unfold Oper.wp;rw[V];show K (a.put o.dst undef) w';rw[nj];have be:own'.length=st.own.length:=by
    unfold TP at N;simp only[J3]at N;obtain⟨n,Z,us,jv,N⟩:=N;repeat' split at N
    all_goals first|(cases N;simp;done)|cases N
   exact Dd
  iterate 4
   .rename_i I;simp only[Iq]at f;obtain⟨⟨W,s,b⟩,Z,rfl,rfl⟩:=f;obtain⟨r,w',l,G,ha,u,H⟩:=b6j (h.own.more (own':=st.own++[b]) Vt) h.base (h.fresh _ (Jm _)) t Z J E6;refine L G (hK _ w' l ?_);refine h.put ha.own ha.fr (MZ ha.keeps h.glo) (h.env.keep ha.keeps) (λk hk=> ?_) (λj x hx=>ha.keeps.own _ _ (h.anc j x hx)) O H;simp only[J5]at hk;rw[u k E4];exact h.fresh k E4
  .rename_i T r I;simp only[Iq]at f;obtain⟨b,Z,rfl,rfl⟩:=f;obtain⟨r,w',l,G,ha,u,H⟩:=b1u hE (h.own.more (own':=st.own++[b]) Vt) h.base (h.fresh _ (Jm _)) t I Z E6;refine L G (hK _ w' l ?_);refine h.put ha.own ha.fr (MZ ha.keeps h.glo) (h.env.keep ha.keeps) (λk hk=> ?_) (λj x hx=>ha.keeps.own _ _ (h.anc j x hx)) O H;simp only[J5]at hk;rw[u k E4];exact h.fresh k E4
  iterate 2
   .rename_i T m k x I;simp only[Jn]at f;obtain⟨sm,n9,sk,gc,sx,S,own',zt,f⟩:=f;split at f;rotate_left
    .cases f
    rename_i nj;simp only[Ir]at f;obtain⟨rfl,rfl⟩:=f;obtain⟨w',G,ha,be⟩:=c05 hE h.own (t _ _ n9) (t _ _ gc) (t _ _ S) zt;have V:(execOp a.eval o).run E.P w=.ok .skip w':=by simp[execOp,I,G]
    unfold Oper.wp;rw[V];show K (a.put o.dst undef) w';rw[nj];exact Dd
  .rename_i x y T U I;split at f;rotate_left
   .cases f
   rename_i W9;subst W9;simp only[Jn]at f;obtain⟨sx,S,sy,X0,⟨W,k,own',new⟩,B,f⟩:=f;split at f
   .cases f
   rename_i qu;simp only[Ir]at f;obtain⟨rfl,rfl⟩:=f;obtain⟨r,w',l,G,H,hafter⟩:=c1z (ty:=o.type) h.own h.base (h.fresh _ (Jm _)) (t _ _ S) (t _ _ X0) B J;have V:(execOp a.eval o).run E.P w=.ok (.value r) w':=by simp only[execOp,I,resolve,Is,invoke,builtin];rw[show (⟨[x,y]⟩:Array Operand).map a.eval= #[a.eval x,a.eval y]from E6,G];simp
   have be:new=true/\own'.length=st.own.length+1\/new=false/\own'.length=st.own.length/\k<st.own.length:=by
    simp only[TG,Jn]at B;obtain⟨e,_,inf,_,z,_,mg,_,B⟩:=B;split at B;rotate_left
    .cases B
    unfold b4n at B;split at B
    .cases B;exact .inl ⟨rfl,E6⟩
    .split at B
     .simp only[Ir]at B;obtain⟨_,rfl,rfl,rfl⟩:=B;exact .inl ⟨rfl,E6⟩
     .cases B
    .split at B
     .rename_i hk;split at B
      .cases B;exact .inr ⟨rfl,E6,(Jh.1 hk).1⟩
      .cases B
     .cases B
    .cases B
   refine L V (hK _ w' l ?_);rcases hafter with⟨rfl,ha,u⟩|⟨rfl,ha,u⟩
   .refine h.put ha.own ha.fr (MZ ha.keeps h.glo) (h.env.keep ha.keeps) (λj hj=> ?_) (λj x hx=>ha.keeps.own _ _ (h.anc j x hx)) O H;rcases be with⟨_,hl⟩|⟨hf,_⟩
    .rw[u j E4];exact Cc
    .cases hf
   .have qr:∀j x,E.an j=some x->j=k->False:=λj x hx e=>qu (by subst e;simp[Env.an_ak hx]);refine h.put ha.own ha.fr (b1n ha.keeps h.glo) (h.env.change ha.keeps) (λj hj=> ?_) (λj x hx=>ha.keeps.own _ _ (λe=>qr j x hx Fm) (h.anc j x hx)) O H;rcases be with⟨hf,_⟩|⟨_,hl,ku⟩
    .cases hf
    .rw[u j E4];exact Cc
  .rename_i T x lo hi I;split at f
   .rename_i k S;simp only[Jn]at f;obtain⟨⟨W,own'⟩,hrs,f⟩:=f;split at f
    .cases f
    rename_i qu;simp only[Ir]at f;obtain⟨rfl,rfl⟩:=f;have opt:∀y:Option Operand,DO w (held A μ) μ (PW (CE E st.ρ none) y) (y.map a.eval):=by
     intro y;cases y with
     |none=>simp[DO,PW]
     |some y=>
      simp only[PW,Kn];cases hy:CE E st.ρ none y with
      |none=>simp[DO]
      |some s=>simpa[DO]using t _ _ hy
    obtain⟨r,l,G,H,ha,be,hk,u⟩:=c0i h.own h.base (t _ _ S) (opt lo) (opt hi) hrs J;have V:(execOp a.eval o).run E.P w=.ok (.value r) w:=by simp[execOp,I,G]
    have qr:∀j x,E.an j=some x->j=k->False:=λj x hx e=>qu (by subst e;simp[Env.an_ak hx]);refine L V (hK _ w l ?_);refine h.put ha.own ha.fr (b1n ha.keeps h.glo) (h.env.change ha.keeps) (λj hj=> ?_) (λj x hx=>ha.keeps.own _ _ (λe=>qr j x hx Fm) (h.anc j x hx)) O H;rw[be]at hj;rw[u j E4];exact Cc
   .simp only[Iq]at f;obtain⟨⟨W,s⟩,hs,rfl,rfl⟩:=f;rw[<-I]at hs;exact M hs J hK
  .simp only[Iq]at f;obtain⟨⟨W,s⟩,hs,rfl,rfl⟩:=f;exact M hs J hK
end
end Go.Proofs.YtaihldljnlgnoaaGreatDoor.V
