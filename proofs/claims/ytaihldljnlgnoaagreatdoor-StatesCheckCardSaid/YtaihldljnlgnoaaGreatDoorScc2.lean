/-
  Parts of the proof: V8 V9 V10 M1 V11 V12 V13 V14. Conditions: none.
-/
import Derived.Test.YtaihldljnlgnoaaGreatDoorScc1
import Derived.MapKept
import Derived.ChangeKeysEq
set_option maxRecDepth 100000
set_option maxHeartbeats 40000000
namespace Go.Proofs.YtaihldljnlgnoaaGreatDoor.V
open Go
def SV.kill0(S:List Nat):SV->SV
 |.osl j=>if S.contains j then .any else .osl j
 |.oel j d i b=>if S.contains j then .any else .oel j d i b
 |.fp e j i o=>if S.contains j then .any else .fp e j i o
 |.own j o=>.own j o
 |.agg _=>.any
 |.tup _=>.any
 |.clo f a=>if a.all (λc=>match c with|.osl j=> !S.contains j|.fp _ j _ _=> !S.contains j|.oel _ _ _ _=>false|.agg _|.tup _=>false|.clo _ a=>a.isEmpty|_=>true)then .clo f a else .any
 |s=>s
def SV.kill1(S:List Nat):SV->SV
 |.agg a=>.agg (a.map (SV.kill0 S))
 |s=>s.kill0 S
def SV.kill2(S:List Nat):SV->SV
 |.tup a=>.tup (a.map (SV.kill1 S))
 |s=>s.kill1 S
def Blk.kill(S:List Nat):Blk->Blk
 |.cells T d=>.cells T (d.map (SV.kill0 S))
 |.pmap K k a BV=>if S.contains k then .dead else .pmap K k a BV
 |.rowh T e n f c i u=>.rowh T e n f c i (u.map (SV.kill0 S))
 |b=>b
structure Keeps' (S:List Nat) (w w':World) (H H':Nat->Prop) (μ μ':Mu):Prop where
 size:w.heap.size<=w'.heap.size
 block:∀b,b<w.heap.size->¬H b->w'.heap[b]?=w.heap[b]?
 less:∀b,b<w.heap.size->H' b->H b
 own:∀j x,j∉S->μ j=some x->μ' j=some x
 ptr:∀k x,k∈S->μ k=some x->(∃a n m,x=.slice a n m)\/∃ps qs,x=BR ps qs
section
variable{w w':World}{H H':Nat->Prop}{μ μ':Mu}{S:List Nat}
theorem KI{s:SV}{v:Value}(c:Keeps' S w w' H H' μ μ')(h:D w H μ s v):s.pure=true->D w' H' μ' s v:=by
 induction h with
 |int=>exact λ_=>.int
 |bool=>exact λ_=>.bool
 |con=>exact λ_=>.con
 |own h=>intro hp;simp[SV.pure,SV.pure0]at hp
 |osl h=>intro hp;simp[SV.pure,SV.pure0]at hp
 |oel h=>intro hp;simp[SV.pure,SV.pure0]at hp
 |omp h=>intro hp;simp[SV.pure,SV.pure0]at hp
 |fp h=>intro hp;simp[SV.pure,SV.pure0]at hp
 |mp r g d k hl l ih=>
  exact λ_=>.mp r g (λn=>d (c.less _ k.lt n)) (k.keep (c.block _ k.lt d)) hl (λq i s v x hs hv=>ih q i s v x hs hv (Ja.1 (hl q x).2 s (J6 hs)))
 |sl a b o m g k hx y t hl l ih=>
  exact λ_=>.sl a b o m g k hx y (λz=>by obtain⟨e,d,u⟩:=t z;exact⟨e,λn=>d (c.less _ u.1 n),u.keep c.size (c.block _ u.1 d)⟩) hl (λi j s f hs=>ih i j s f hs (Ja.1 (hl i f).2 s (J6 hs)))
 |rel b o g f d t hl l ih=>
  exact λ_=>.rel b o g f (λn=>d (c.less _ t.1 n)) (t.keep c.size (c.block _ t.1 d)) hl (λi j s f hs=>ih i j s f hs (Ja.1 (hl i f).2 s (J6 hs)))
 |agg vs hl l ih=>intro hp;simp[SV.pure,SV.pure0]at hp
 |tup vs hl l ih=>intro hp;simp[SV.pure,SV.pure0]at hp
 |clo vs hl l ih=>
  exact Cm
 |ub A B=>exact λ_=>.ub A B
 |any=>exact λ_=>.any
theorem b2x{ok:Bool}{k i off:Nat}{v:Value}(a:Keeps' S w w' H H' μ μ')(hS:k∉S)(h:D w H μ (.fp ok k i off) v):D w' H' μ' (.fp ok k i off) v:=
 D.fp_keep (λb c e=>⟨b,c,a.own _ _ hS e,λ_ h=>h⟩) h
theorem Xw{s:SV}{v:Value}(c:Keeps' S w w' H H' μ μ')(h:D w H μ s v):D w' H' μ' (s.kill0 S) v:=by
 have k:∀{j:Nat} {b:Nat},μ j=some (.pointer (some ⟨b,0,none⟩))->j∉S:=λh x=>by rcases c.ptr _ _ x h with⟨a,n,m,e⟩|⟨_,_,e⟩<;>cases e
 have l:∀{j:Nat} {r:Option Nat},μ j=some (.map r)->j∉S:=λh x=>by rcases c.ptr _ _ x h with⟨a,n,m,e⟩|⟨_,_,e⟩<;>cases e
 cases h with
 |fp h=>
  simp only[SV.kill0];split
  .exact .any
  .rename_i e;exact b2x c Fc (.fp h)
 |omp h=>exact .omp (c.own _ _ (l h) h)
 |mp r g q t d f=>exact KI c (.mp r g q t d f) rfl
 |int=>exact .int
 |bool=>exact .bool
 |con=>exact .con
 |own h=>
  exact .own (c.own _ _ (k h) h)
 |osl h=>
  rename_i j n m a;simp only[SV.kill0];split
  .exact .any
  .rename_i e;exact .osl (c.own _ _ Fc h)
 |oel h=>
  simp only[SV.kill0];split
  .exact .any
  .rename_i e;exact .oel (c.own _ _ Fc h)
 |sl a b o m g t hx hc u d f=>exact KI c (.sl a b o m g t hx hc u d f) rfl
 |rel b o g y q u d f=>exact KI c (.rel b o g y q u d f) rfl
 |agg z d f=>exact .any
 |tup z d f=>exact .any
 |clo z d f=>
  simp only[SV.kill0];split
  .rename_i C;refine .clo z d (λi s v hs E=> ?_);have hc:=Ja.1 C s (J6 hs);have F:=f i s v hs E;cases F with
   |own h=>
    exact .own (c.own _ _ (k h) h)
   |omp h=>exact .omp (c.own _ _ (l h) h)
   |fp h=>exact b2x c Ep (.fp h)
   |mp r g q t d f=>exact KI c (.mp r g q t d f) rfl
   |osl h=>exact .osl (c.own _ _ Ep h)
   |oel h=>simp at hc
   |agg=>simp at hc
   |tup=>simp at hc
   |clo G I J=>exact KI c (.clo G I J) Hq
   |int=>exact .int
   |bool=>exact .bool
   |con=>exact .con
   |ub A B=>exact .ub A B
   |any=>exact .any
   |sl a b o m g t hx K u d f=>exact KI c (.sl a b o m g t hx K u d f) rfl
   |rel b o g y q u d f=>exact KI c (.rel b o g y q u d f) rfl
  .exact .any
 |ub A B=>exact .ub A B
 |any=>exact .any
theorem b3y{s:SV}{v:Value}(a:Keeps' S w w' H H' μ μ')(h:D w H μ s v):D w' H' μ' (s.kill1 S) v:=by
 unfold SV.kill1;split
 .cases h with
  |agg b hl c=>
   refine .agg b E9 (λi s v hs d=> ?_);simp only[Ih]at hs;obtain⟨e,f,rfl⟩:=hs;exact Xw a (c i e v f d)
 .exact Xw a h
theorem b3t{s:SV}{v:Value}(a:Keeps' S w w' H H' μ μ')(h:D w H μ s v):D w' H' μ' (s.kill2 S) v:=by
 unfold SV.kill2;split
 .cases h with
  |tup b hl c=>
   refine .tup b E9 (λi s v hs d=> ?_);simp only[Ih]at hs;obtain⟨e,f,rfl⟩:=hs;exact b3y a (c i e v f d)
 .exact b3y a h
theorem DK.change{x:Value}{bl:Blk}(d:Keeps' S w w' H H' μ μ')(t:∀b,CN x b->w'.heap[b]?=w.heap[b]?)(h:DK w H μ x bl):DK w' H' μ' x (bl.kill S):=by
 cases bl with
 |cells T cs=>
  obtain⟨b,J,rfl,y,hl,L,l⟩:=h;refine⟨b,J,rfl,(t b (.inl rfl)).trans y,E9,L,λi s v hs z=> ?_⟩;simp only[Ih]at hs;obtain⟨R,U,rfl⟩:=hs;exact Xw d (l i R v U z)
 |row T N n f c=>
  obtain⟨a,m,rfl,V,A,B,hl,h⟩:=h;refine⟨a,m,rfl,V,A,B,hl,?_⟩;rcases h with h|⟨b,o,J,O,rfl,y,W,L,l⟩
  .exact .inl h
  .exact .inr ⟨b,o,J,O,rfl,(t b (KD O)).trans y,W,L,λi j s v G hs z=>KI d (l i j s v G hs z) (Ja.1 (hl i G).2 s (J6 hs))⟩
 |map K ag M val=>
  obtain⟨r,g,rfl,A,hl,l⟩:=h;exact⟨r,g,rfl,A.keep (t r (.inl rfl)),hl,λq i s v I hs z=>KI d (l q i s v I hs z) (Ja.1 (hl q I).2 s (J6 hs))⟩
 |fam T Ts n bt F=>
  obtain⟨C,E,rfl,h,y⟩:=h;refine⟨C,E,rfl,h.keep ⟨d.size,d.block,d.less⟩ t,y.keep (λi c p e B=>d.own _ _ (λhS=> ?_) B)⟩;obtain⟨p',e1,P⟩:=y i c e;rw[B]at P;cases P;have G:i<n:=Gv;obtain⟨b,us,Q,_⟩:=h.mem i G;rw[e1]at Q;cases Q;rcases d.ptr _ _ hS B with⟨a,n,m,e⟩|⟨_,_,e⟩<;>cases e
 |pmap K k M BV=>
  simp only[Blk.kill];split
  .exact J5
  rename_i hS;obtain⟨⟨C,E,X⟩,r,g,rfl,A,l⟩:=h;exact⟨⟨C,E,d.own _ _ (by simpa using hS) X⟩,r,g,rfl,A.keep (t r (.inl rfl)),λq I=>by obtain⟨p,e,h⟩:=l q I;exact⟨p,e,b2x d (by simpa using hS) h⟩⟩
 |rowh T N n f c i u=>exact OO.to (SV.kill0 S) (λb hx=>t b (.inl hx)) (λs v Y h=>KI d h Y) (λs v h=>Xw d h) h
 |pool T N n l al ln ct=>
  obtain⟨C,E,rfl,h⟩:=h;exact⟨C,E,rfl,h.keep ⟨d.size,d.block,d.less⟩ t⟩
 |dead=>exact J5
end
structure After' (S:List Nat) (B0:Nat) (X A:Nat->Prop) (w w':World) (μ μ':Mu) (own':List Blk):Prop where
 own:Own B0 X A w' μ' own'
 fr:Fr B0 X w w'
 keeps:Keeps' S w w' (held A μ) (held A μ') μ μ'
theorem b18{B0:Nat}{X A:Nat->Prop}{w w':World}{μ:Mu}{own:List Blk}(h:Own B0 X A w μ own)(S:B0<=w.heap.size){k:Nat}{x y:Value}{bl:Blk}(l:μ k=some x)(W:∃a n m,x=.slice a n m)
 (Y:∃a n m,y=.slice a n m) (d:FD y=none\/FD y=FD x\/(∃b,FD y=some b/\w.heap.size<=b/\b<w'.heap.size/\B0<=b)) (u:w.heap.size<=w'.heap.size) (H:∀b,b<w.heap.size->FD x≠some b->w'.heap[b]?=w.heap[b]?)
 (Z:w'.os=w.os) (sj:w'.tape=w.tape) (X6:w'.output=w.output)
 (ba:Keeps' [k] w w' (held A μ) (held A (μ.set k y)) μ (μ.set k y)->DK w' (held A (μ.set k y)) (μ.set k y) y bl) (X7:w.drawn<=w'.drawn:=by first|exact J9 _|exact Nat.le_succ _):
 After' [k] B0 X A w w' μ (μ.set k y) ((own.map (Blk.kill [k])).set k bl):=by
 obtain⟨xa,xn,xm,rfl⟩:=W;obtain⟨o,q,r,rfl⟩:=Y;have v:=h.rng;have I:Keeps' [k] w w' (held A μ) (held A (μ.set k (.slice o q r))) μ (μ.set k (.slice o q r)):=by
  refine⟨u,λb f B=>H b f (λe=>B (.inr ⟨k,_,l,.inl e⟩)),λb f B=> ?_,λj z hj c=>by simp only[Js]at hj;simp[Mu.set,hj,c],λj z hj c=>by simp only[Js]at hj;subst hj;rw[l]at c;cases c;exact .inl ⟨_,_,_,rfl⟩⟩;rcases B with B|⟨j,z,hj,c⟩
  .exact .inl B
  .unfold Mu.set at hj;split at hj
   .cases hj;rw[Sv]at c;rcases d with d|d|⟨T,d,J,_⟩
    .rw[d]at c;cases c
    .rw[d]at c;exact .inr ⟨k,_,l,.inl c⟩
    .rw[d]at c;cases c;omega
   .exact .inr ⟨j,z,hj,c⟩
 have U:∀j z b,j≠k->μ j=some z->CN z b->FD (Value.slice xa xn xm)≠some b:=λj z b hj c f e=>hj (h.inj j k z _ b c l f (.inl e));refine⟨⟨λj z hj=> ?_,λj K z L b hj s c M=> ?_,λj z b hj c=> ?_,λb f=>K0 (h.bnd b f) u⟩,⟨Z,sj,X6,λ_=>X7,u,λi hi hX=> ?_⟩,I⟩
 .by_cases e:j=k
  .subst e;have:z=.slice o q r:=Ez;subst this;obtain⟨C,N,_⟩:=h.blk j _ l;have E:j<own.length:=(J4.1 N).1;exact⟨bl,by simp[E],ba I⟩
  .have s:μ j=some z:=F7;obtain⟨C,N,qg⟩:=h.blk j z s;refine⟨C.kill [k],by rw[Jh (Ne.symm e),Jr,N];rfl,qg.change I (λb f=>H b (v j z b s f).1 (U j z b e s f))⟩
 .have F:∀j z,Mu.set μ k (.slice o q r) j=some z->(j=k/\z=.slice o q r)\/(j≠k/\μ j=some z):=by
   intro j z hj;by_cases e:j=k
   .subst e;exact .inl ⟨rfl,Ez⟩
   .exact .inr ⟨e,F7⟩
  have g:∀j z,j≠k->μ j=some z->CN z b->CN (.slice o q r) b->False:=by
   intro j z hj c f t;rw[Sv]at t;rcases d with d|d|⟨T,d,J,_⟩
   .rw[d]at t;cases t
   .rw[d]at t;exact U j z b hj c f t
   .rw[d]at t;cases t;have:=(v j z b c f).1;omega
  rcases F j z hj with⟨e,rfl⟩|⟨e,em⟩<;>rcases F K L s with⟨O,e2⟩|⟨O,G⟩
  .rw[e,O]
  .exact(g K L O G M c).elim
  .subst e2;exact(g j z e em c M).elim
  .exact h.inj j K z L b em G c M
 .by_cases e:j=k
  .subst e;have:z=.slice o q r:=Ez;subst this;rw[Sv]at c;rcases d with d|d|⟨T,d,J,E,S⟩
   .rw[d]at c;cases c
   .rw[d]at c;obtain⟨P,Q,R⟩:=v j _ b l (.inl c);exact⟨K0 P u,Q,R⟩
   .rw[d]at c;cases c;exact⟨E,λha=>by have:=h.bnd _ ha;omega,.inl S⟩
  .have s:μ j=some z:=F7;obtain⟨P,Q,R⟩:=v j z b s c;exact⟨K0 P u,Q,R⟩
 .rcases N9 i w.heap.size with E|J
  .refine H i E (λe=> ?_);rcases(v k _ i l (.inl e)).2.2 with V|V
   .omega
   .exact hX V
  .omega
theorem b3h{B0:Nat}{X A:Nat->Prop}{w w':World}{μ:Mu}{own:List Blk}(h:Own B0 X A w μ own)(c:B0<=w.heap.size){k:Nat}{x y:Value}{bl:Blk}(d:μ k=some x)(e:∃a n m,x=.slice a n m)
 (f:∃a n m,y=.slice a n m) (g:FD y=FD x\/(∃b,FD y=some b/\w.heap.size<=b/\b<w'.heap.size/\B0<=b)) (i:w.heap.size<=w'.heap.size) (j:∀b,b<w.heap.size->FD x≠some b->w'.heap[b]?=w.heap[b]?)
 (l:w'.os=w.os) (o:w'.tape=w.tape) (p:w'.output=w.output)
 (q:Keeps' [k] w w' (held A μ) (held A (μ.set k y)) μ (μ.set k y)->DK w' (held A (μ.set k y)) (μ.set k y) y bl) (r:w.drawn<=w'.drawn:=by first|exact J9 _|exact Nat.le_succ _):
 After' [k] B0 X A w w' μ (μ.set k y) ((own.map (Blk.kill [k])).set k bl):=
 b18 h c d e f (.inr g) i j l o p q r
def Rp(own:List Blk)(sz:Nat):SV->Option (Nat×(Nat->List SV))
 |.con (.slice none 0 0)=>some (0,λ_=>[])
 |.sl a n f _=>if sz=a then some (n,f)else none
 |.osl k=>match own[k]? with
  |some (.row _ a n f _)=>if sz=a then some (n,f)else none
  |_=>none
 |_=>none
section
variable{P:Program}{w:World}{μ:Mu}{B0:Nat}{X A:Nat->Prop}{own ownN:List Blk}
theorem b0q(S:Own B0 X A w μ ownN)(U:∀(k:Nat) (bl:Blk),own[k]?=some bl->ownN[k]?=some bl){y:SV}{v:Value}{sz n:Nat}{f:Nat->List SV}(z:D w (held A μ) μ y v)(d:Rp own sz y=some (n,f)):
 ∃(a:Option Addr) (m:Nat) (news:List Value),v=.slice a n m/\n<=m/\m<=maxLen/\news.length=n*sz/\(∀v∈news,v.oneCell'=true)/\(∀i,i<n->(f i).length=sz/\(f i).all SV.pure=true)/\
  (0<n->∃E,a=some E/\E.spot=none/\∀(j:Nat) (u:Value),news[j]?=some u->w.cell? (E.add j)=some u)/\
  ∀(i j:Nat) (s:SV) (u:Value),i<n->(f i)[j]?=some s->news[i*sz+j]?=some u->D w (held A μ) μ s u:=by
 cases z with
 |con=>
  unfold Rp at d;split at d<;>first
   |(rename_i V;cases V;cases d;exact⟨none,0,[],rfl,J9 _,F8,Dx,Dx,λi h=>absurd h (Jq _),λh=>absurd h (M7 _),λi j s u h=>absurd h (Jq _)⟩)
   |simp_all
 |sl a b o m g F hx W N hl G=>
  rename_i H q Y c;simp only[Rp]at d;split at d;rotate_left
  .cases d
  rename_i e;subst e;simp only[Id]at d;obtain⟨rfl,rfl⟩:=d;have BV:∀(x:Nat) (u:Value),((List.range (q*sz)).map λx=>g (x/sz) (x%sz))[x]?=some u->x<q*sz/\u=g (x/sz) (x%sz):=by intro x u l;simp only[Ih]at l;obtain⟨y,z,rfl⟩:=l;rw[J4]at z;obtain⟨O,e⟩:=z;simp at O e;subst e;exact⟨O,rfl⟩
  have split_:∀x,x<q*sz->x/sz<q/\x%sz<sz/\x/sz*sz+x%sz=x:=by
   intro x hx;have Z:0<sz:=by
    rcases Kg sz with I|I
    .subst I;omega
    .exact I
   refine⟨Nat.div_lt_of_lt_mul (by rwa[Mh]),Nk _ Z,?_⟩;have:=Nat.div_add_mod x sz;rw[Mh]at this;exact this
  refine⟨a,m,(List.range (q*sz)).map λx=>g (x/sz) (x%sz),rfl,F,hx,Dx,?_,hl,?_,?_⟩
  .intro v J;obtain⟨x,cm,e⟩:=Jw.1 J;obtain⟨r,t⟩:=BV x v (by rw[<-e];exact Iy cm);obtain⟨B,K,_⟩:=split_ x r;rw[t];exact((N (Nat.lt_of_le_of_lt (Je _) B)).2.2.2 _ _ B K).2
  .intro C;obtain⟨rfl,hb,hr⟩:=N C;refine⟨_,rfl,rfl,λx u l=> ?_⟩;obtain⟨r,t⟩:=BV x u l;obtain⟨B,K,s3⟩:=split_ x r;have:=(hr.2 _ _ B K).1;rw[Ku,t,<-this,L2,s3]
  .intro i j s u hi hs l;obtain⟨r,t⟩:=BV _ u l;have P:j<sz:=G5;have L:(i*sz+j)/sz=i:=by rw[Mh,Nat.mul_add_div Dv,Nat.div_eq_of_lt P];rfl
   have e2:(i*sz+j)%sz=j:=by rw[Mh,Nat.mul_add_mod,Nat.mod_eq_of_lt P]
   rw[L,e2]at t;rw[t];exact G i j s hi hs
 |osl h=>
  rename_i k M Q a0;simp only[Rp]at d;split at d;rotate_left
  .cases d
  rename_i T H q Y c hk;split at d;rotate_left
  .cases d
  rename_i e;subst e;simp only[Id]at d;obtain⟨rfl,rfl⟩:=d;obtain⟨bl,R,ba⟩:=S.blk _ _ h;rw[U _ _ hk]at R;cases R;obtain⟨a,m,L,C,F,W,hl,be⟩:=ba;cases L;rcases be with rfl|⟨b,o,vs,c7,rfl,hh,ho,r,G⟩
  .obtain rfl:M=0:=Dv;exact⟨_,0,[],rfl,J9 _,F8,Dx,Dx,hl,λh=>absurd h (M7 _),λi j s u h=>absurd h (Jq _)⟩
  .have bi:M*sz<=Q*sz:=Ka _ C;refine⟨_,Q,(vs.drop o).take (M*sz),rfl,C,F,E5,λv J=>r v (List.mem_of_mem_drop (List.mem_of_mem_take J)),hl,λ_=>⟨_,rfl,rfl,λj u l=> ?_⟩,λi j s u hi hs l=> ?_⟩
   .rw[Ku,SX hh];exact(HE l).2
   .exact G i j s u hi hs (by rw[L2];exact(HE l).2)
 |_=>simp[Rp]at d
def Pi(d:Int):Option (Option SV)->Option Int
 |none=>some d
 |some (some (.int _ n))=>some n
 |_=>none
def c48(P:Program)(_:List Blk)(T:TypeId)(x:SV)(lo hi mx:Option (Option SV)):Option (Prop×SV):=
 match P.underlying T with
 |some (.slice e)=>match x,mx with
  |.sl a n f c,none=>do
   let l<-Pi 0 lo
   let h<-Pi n hi
   some (CX P e=some a/\0<=l/\l<=h/\h<=n,.sl a (h-l).toNat (λj=>f (l.toNat+j)) (c.map λm=>m-l.toNat))
  |.sl a n f _,some m=>do
   let l<-Pi 0 lo
   let h<-Pi n hi
   let m<-Pi n (some m)
   if hi.isNone then none else
   some (CX P e=some a/\0<=l/\l<=h/\h<=m/\m<=n,.sl a (h-l).toNat (λj=>f (l.toNat+j)) (some (m-l).toNat))
  |_,_=>none
 |some (.array n e)=>match x,lo,hi,mx with
  |.rel a b f 0 0,none,none,none=>if CX P e=some a/\n=b/\n<=1000000 then some (True,.sl a n f (some n))else none
  |_,_,_,_=>none
 |_=>none
end
section
variable{P:Program}{w:World}{μ:Mu}{B0:Nat}{X A:Nat->Prop}{own ownN:List Blk}
def DO(w:World)(H:Nat->Prop)(μ:Mu)(o:Option (Option SV))(v:Option Value):Prop:=
 match o,v with
 |none,none=>True
 |some (some s),some u=>D w H μ s u
 |some none,some _=>True
 |_,_=>False
theorem d71{H:Nat->Prop}{sz n:Nat}{f:Nat->List SV}{a:Option Addr}{b o m l h m':Nat}{g:Nat->Nat->Value}(_:n<=m)(hx:m<=maxLen)
 (k:0<n->a=some ⟨b,o,none⟩/\¬H b/\WB w b o sz n g) (q:∀i,i<n->(f i).length=sz/\(f i).all SV.pure=true) (r:∀(i j:Nat) (s:SV),i<n->(f i)[j]?=some s->D w H μ s (g i j))
 (h1:l<=h) (h2:h<=n) (h3:h<=m') (h4:m'<=m) {c:Option Nat} (t:c=none\/c=some (m'-l)):
 D w H μ (.sl sz (h-l) (λj=>f (l+j)) c) (.slice (if m'=l then a else a.map (·.add (l*sz))) (h-l) (m'-l)):=by
 refine .sl _ b (o+l*sz) (m'-l) (λi j=>g (l+i) j) Dv Dv t (λhn=> ?_) (λi d=>q _ Dv) (λi j s d hs=>r _ _ _ Dv hs);obtain⟨rfl,u,e⟩:=k Dv;rw[J3 Dv];refine⟨by simp[Ku],u,e.1,λi j d v=> ?_⟩;have:=e.2 (l+i) j Dv v;rwa[show o+(l+i)*sz+j=o+l*sz+i*sz+j from by rw[Lx];omega]at this
theorem c49{H:Nat->Prop}{T:TypeId}{x s:SV}{v:Value}{lo hi mx:Option (Option SV)}{A B vm:Option Value}{C:Prop}(hx:D w H μ x v)(K:DO w H μ lo A)(L:DO w H μ hi B)(M:DO w H μ mx vm)
 (i:c48 P own T x lo hi mx=some (C,s)) (W:C):∃r,(Instr.sliceAt T v A B vm).run P w=.ok r w/\D w H μ s r:=by
 have j:∀{d:Int} {o:Option (Option SV)} {u:Option Value} {n:Int},DO w H μ o u->Pi d o=some n->(u=none/\o=none/\n=d)\/∃k,u=some (.int k n)/\o.isNone=false:=by
  intro d o u n q z;unfold Pi at z;split at z
  .cases z;cases u with
   |none=>exact .inl ⟨rfl,rfl,rfl⟩
   |some _=>simp[DO]at q
  .cases z;cases u with
   |none=>simp[DO]at q
   |some u=>simp only[DO]at q;cases q;exact .inr ⟨_,rfl,rfl⟩
  .cases z
 unfold c48 at i;split at i
 .rename_i e hT;have kr:P.elem T=e:=G1;split at i
  .rename_i X n f c;simp only[Im,Id]at i;obtain⟨l,N,h,O,rfl,rfl⟩:=i;obtain⟨y,h0,h1,h2⟩:=W;simp only[CX,J7]at y;obtain⟨t,E,rfl⟩:=y;cases vm with
   |some _=>simp[DO]at M
   |none=>
   cases hx with
   |sl a b o m g Q R G S F q=>
    have U:(Instr.sliceBounds true n m A B none).run P w=.ok (l.toNat,h.toNat,m) w:=by
     rcases j K N with⟨rfl,_,rfl⟩|⟨I,rfl,_⟩<;>rcases j L O with⟨rfl,_,rfl⟩|⟨J,rfl,_⟩
     .simp[Instr.sliceBounds]
     .simp[Instr.sliceBounds,Lb w J h m _ Dv Dv]
     .simp[Instr.sliceBounds,Lb w I l n _ Dv Dv]
     .have:=Lb (P:=P) w I l h.toNat .sliceB Dv Dv;simp[Instr.sliceBounds,Lb w J h m _ Dv Dv,this]
    refine⟨.slice (if m=l.toNat then a else a.map (·.add (l.toNat*t.size))) (h.toNat-l.toNat) (m-l.toNat),?_,?_⟩;rotate_left
    .have:=d71 (w:=w) (H:=H) (μ:=μ) (l:=l.toNat) (h:=h.toNat) (m':=m) Q R S F q Dv Dv Dv (J9 _) (c:=c.map λm=>m-l.toNat) (by rcases G with rfl|rfl;exact .inl rfl;exact .inr rfl);rw[show (h-l).toNat=h.toNat-l.toNat from Dv];exact this
    .simp only[Instr.sliceAt,Ie,K5 hT,Instr.slice,U,HY E]
  .rename_i X n f c m;simp only[Im]at i;obtain⟨l,N,h,O,mm,mr,i⟩:=i;split at i
   .cases i
   rename_i V;simp only[Id]at i;obtain⟨rfl,rfl⟩:=i;obtain⟨y,h0,h1,h2,h3⟩:=W;simp only[CX,J7]at y;obtain⟨t,E,rfl⟩:=y;cases hx with
   |sl a b o Y g Q R G S F q=>
    have U:(Instr.sliceBounds true n Y A B vm).run P w=.ok (l.toNat,h.toNat,mm.toNat) w:=by
     rcases j M mr with⟨rfl,e,rfl⟩|⟨km,rfl,_⟩
     .cases e
     rcases j L O with⟨rfl,e,rfl⟩|⟨J,rfl,_⟩
     .simp[e]at V
     have Z:=Lb (P:=P) w km mm Y .slice3Acap Dv Dv;have e2:=Lb (P:=P) w J h mm.toNat .slice3B Dv Dv;rcases j K N with⟨rfl,_,rfl⟩|⟨I,rfl,_⟩
     .simp[Instr.sliceBounds,Z,e2]
     .have e3:=Lb (P:=P) w I l h.toNat .slice3C Dv Dv;simp[Instr.sliceBounds,Z,e2,e3]
    refine⟨.slice (if mm.toNat=l.toNat then a else a.map (·.add (l.toNat*t.size))) (h.toNat-l.toNat) (mm.toNat-l.toNat),?_,?_⟩;rotate_left
    .have:=d71 (w:=w) (H:=H) (μ:=μ) (l:=l.toNat) (h:=h.toNat) (m':=mm.toNat) Q R S F q Dv Dv Dv Dv (c:=some (mm-l).toNat) (.inr (by congr 1;omega));rw[show (h-l).toNat=h.toNat-l.toNat from Dv];exact this
    .simp only[Instr.sliceAt,Ie,K5 hT,Instr.slice,U,HY E]
  .cases i
 .rename_i n e hT;have kr:P.elem T=e:=G1;have zx:P.arrayLen T=n:=by simp[Program.arrayLen,hT]
  split at i
  .rename_i X n' f;split at i;rotate_left
   .cases i
   rename_i G;obtain⟨y,rfl,hn⟩:=G;simp only[Id]at i;obtain⟨rfl,rfl⟩:=i;simp only[CX,J7]at y;obtain⟨t,E,rfl⟩:=y;cases hx with
   |rel b o g hi z hr F q=>
    cases A<;>cases B<;>cases vm<;>simp[DO]at K L M
    refine⟨.slice (some ⟨b,o,none⟩) n n,?_,.sl _ b o n g (J9 _) F0 (.inr rfl) (λ_=>⟨rfl,z,hr⟩) F q⟩;simp[Instr.sliceAt,K5 hT,Instr.sureAddr,Instr.sliceBounds,HY E,Addr.add_zero']
  .cases i
 .cases i
def PB(c:Option Nat)(n:Nat):Option Nat:=c.bind λa=>if n<=a then some a else none
theorem c1s{c:Option Nat}{n m:Nat}(h:c=none\/c=some m):PB c n=none\/PB c n=some m:=by
 rcases h with rfl|rfl
 .exact .inl rfl
 .unfold PB;simp only[Lq];split
  .exact .inr rfl
  .exact .inl rfl
theorem d7b{c:Option Nat}{n m:Nat}(h:c=none\/c=some m)(hm:m<n):PB c n=none:=by
 rcases h with rfl|rfl
 .rfl
 .unfold PB;simp only[Lq];rw[J3 Dv]
def b4v(own:List Blk)(e:TypeId)(a:TypeInfo)(m:Nat)(g:Nat->List SV):SV->Option (Prop×Nat×List Blk×Bool)
 |.con (.slice none 0 0)=>some (m<=9223372036854775807/\m*a.bytes<=140737488355328,own.length,own++[.row e a.size m g none],true)
 |.sl b n f c=>if b=a.size then
  some ((match c with|some c=>n=c|none=>False)/\(n=0\/0<m)/\n+m<=9223372036854775807/\(n+m)*a.bytes<=140737488355328,own.length,own++[.row e a.size (n+m) (λj=>if j<n then f j else g (j-n)) none],true)
  else none
 |.osl k=>match own[k]? with
  |some (.row d b n f c)=>if d=e/\b=a.size then
   some (n+m<=9223372036854775807/\(n+m)*a.bytes<=140737488355328,k,(own.map (Blk.kill [k])).set k (.row e b (n+m) (λj=>if j<n then f j else g (j-n)) (PB c (n+m))),false)
   else none
  |_=>none
 |_=>none
def TP(P:Program)(own:List Blk)(T:TypeId)(x y:SV):Option (Prop×Nat×List Blk×Bool):=
 (OZ P T).bind λe=>(P.info? e).bind λa=>(Ov P e).bind λz=>(Rp own a.size y).bind λb=>
   if z.length=a.size/\0<a.size/\z.all SV.isCell then b4v own e a b.1 b.2 x else none
theorem Sq{b n:Nat}{a:Option Addr}{c:Nat}{news:List Value}(hl:news.length=n*b)(h:0<n->∃d,a=some d/\d.spot=none/\∀(j:Nat) (u:Value),news[j]?=some u->w.cell? (d.add j)=some u):
 (Builtin.firstCells b n (.slice a n c)).run P w=.ok news.toArray w:=by
 rcases Kg n with e|e
 .subst e;have:news=[]:=Kp E9;subst this;cases a with
  |none=>simp[Builtin.firstCells]
  |some d=>simp[Builtin.firstCells,loadCells,loadCellsFrom]
 .obtain⟨d,rfl,_,f⟩:=h e;simp only[Builtin.firstCells];exact b2g d news (n*b) hl f
theorem VW{a:Value}(d:∀v∈a.cells.toList,v.oneCell'=true)(n:Nat):∀v∈(Builtin.zeroCells a.cells n).toList,v.oneCell'=true:=by
 intro v c;simp only[Builtin.zeroCells,Array.toList_map,Jp]at c;obtain⟨i,hi,rfl⟩:=c;have e:i<n*a.cells.size:=Er;have f:0<a.cells.size:=by
  rcases Kg a.cells.size with b|b
  .rw[b]at e;omega
  .exact b
 have g:i%a.cells.size<a.cells.size:=Nk _ f;rw[Lh a.cells _ g];exact d _ Dx
theorem b01{T ty e:TypeId}{b:TypeInfo}{f:Value}(g:P.underlying T=some (.slice e))(hi:P.info? e=some b)(i:b.zero=some f)
 {a a':Option Addr} {n m k c:Nat} {olds news:List Value} (j:(Builtin.firstCells b.size n (.slice a n c)).run P w.drew=.ok olds.toArray w.drew) (l:(Builtin.firstCells b.size m (.slice a' m k)).run P w.drew=.ok news.toArray w.drew)
 (o:c<n+m) (rz:n+m<=9223372036854775807) (q:(n+m)*b.bytes<=140737488355328):
 (Builtin.append_ #[T,T] ty #[.slice a n c,.slice a' m k]).run P w=.ok (.slice (some ⟨w.heap.size,0,none⟩) (n+m) (grownCap w (n+m) c e))
   (w.drew.alloc (.cells (olds++news++(Builtin.zeroCells f.cells (grownCap w (n+m) c e-(n+m))).toList).toArray e)):=by
 have r:¬(n+m<=c):=Dv;have d:¬(9223372036854775807<((n:Int)+(m:Int))):=Dv;have h48:=growslice_fits o q;have s:¬(281474976710656<Builtin.nextslicecap (n+m) c*b.bytes):=Dv;simp[Builtin.append_,K5 g,sizeOf,typeInfo,zeroValue,hi,i,Builtin.lenOf,r,d,s,Question.forced,j,l,newRow,grownCap];congr 1;congr 1;apply Array.ext';simp
theorem b90{T ty e:TypeId}{a:TypeInfo}(f:P.underlying T=some (.slice e))(hi:P.info? e=some a){d:TypeId}
 {b o:Nat} {vs:List Value} {a':Option Addr} {n m k c:Nat} {news:List Value} (g:w.heap[b]?=some (.cells vs.toArray d (0,0))) (i:(Builtin.firstCells a.size m (.slice a' m k)).run P w=.ok news.toArray w)
 (j:n+m<=c) (hl:o+n*a.size+news.length<=vs.length) (l:∀u∈news,u.oneCell'=true):
 (Builtin.append_ #[T,T] ty #[.slice (some ⟨b,o,none⟩) n c,.slice a' m k]).run P w=.ok (.slice (some ⟨b,o,none⟩) (n+m) c) (putRow w b (over vs (o+n*a.size) news) d):=by
 have hs:=Xn (P:=P) b (o+n*a.size) d news w vs 0 g Dv l;rw[Lu]at hs;simp[Builtin.append_,K5 f,sizeOf,typeInfo,hi,Builtin.lenOf,j,i,Ku,hs]
theorem b04{T ty e:TypeId}{b:TypeInfo}(c:P.underlying T=some (.slice e))(hi:P.info? e=some b){a a':Option Addr}{k:Nat}(d:(Builtin.firstCells b.size 0 (.slice a' 0 k)).run P w=.ok #[] w):
 (Builtin.append_ #[T,T] ty #[.slice a 0 0,.slice a' 0 k]).run P w=.ok (.slice a 0 0) w:=by
 cases a<;>simp[Builtin.append_,K5 c,sizeOf,typeInfo,hi,Builtin.lenOf,d,storeCells]
theorem c0s(h:Own B0 X A w μ ownN){k:Nat}{e:TypeId}{sz:Nat}{f:Nat->List SV}(u:μ k=none)(v:ownN[k]?=some (.row e sz 0 f none)){a:Option Addr}:
 Own B0 X A w (μ.set k (.slice a 0 0)) ownN/\Keeps w w (held A μ) (held A (μ.set k (.slice a 0 0))) μ (μ.set k (.slice a 0 0)):=by
 have n:Keeps w w (held A μ) (held A (μ.set k (.slice a 0 0))) μ (μ.set k (.slice a 0 0)):=by
  refine⟨J9 _,λ_ _ _=>rfl,λb o g=> ?_,λj y c=> ?_⟩
  .rcases g with g|⟨j,y,hj,c⟩
   .exact .inl g
   .unfold Mu.set at hj;split at hj
    .cases hj;exact absurd c b9i
    .exact .inr ⟨j,y,hj,c⟩
  .unfold Mu.set;split
   .subst_vars;rw[u]at c;cases c
   .exact c
 have d:∀j y b,Mu.set μ k (.slice a 0 0) j=some y->CN y b->μ j=some y:=by
  intro j y b hj c;unfold Mu.set at hj;split at hj
  .cases hj;exact absurd c b9i
  .exact hj
 refine⟨⟨λj y hj=> ?_,λj q y r b hj l c s=>h.inj j q y r b (d j y b hj c) (d q r b l s) c s,λj y b hj c=>h.rng j y b (d j y b hj c) c,h.bnd⟩,n⟩;by_cases t:j=k
 .subst t;have:y=.slice a 0 0:=Ez;subst this;exact⟨_,v,a,0,rfl,J9 _,F8,.inl rfl,λi x=>absurd x (Jq _),.inl rfl⟩
 .have l:μ j=some y:=by simpa[Mu.set,t]using hj
  obtain⟨m,z,o⟩:=h.blk j y l;exact⟨m,z,o.keep n (λ_ _=>rfl)⟩
theorem Own.more{own':List Blk}(h:Own B0 X A w μ own)(hs:∀(k:Nat) (bl:Blk),own[k]?=some bl->own'[k]?=some bl):Own B0 X A w μ own':=
 ⟨λk x hx=>by obtain⟨bl,e,a⟩:=h.blk k x hx;exact⟨bl,hs _ _ e,a⟩,h.inj,h.rng,h.bnd⟩
theorem WG{own:List Blk}{bl:Blk}(k:Nat)(b:Blk)(h:own[k]?=some b):(own++[bl])[k]?=some b:=by rw[Jc (J4.1 h).1];exact h
theorem b2q{w':World}{H':Nat->Prop}{μ':Mu}{sz n m:Nat}{f g:Nat->List SV}{us:List Value}{o:Nat}(a:∀i,i<n->(f i).length=sz/\(f i).all SV.pure=true)(b:∀i,i<m->(g i).length=sz/\(g i).all SV.pure=true)
 (d:∀(i j:Nat) (s:SV) (v:Value),i<n->(f i)[j]?=some s->us[o+i*sz+j]?=some v->D w' H' μ' s v) (e:∀(i j:Nat) (s:SV) (v:Value),i<m->(g i)[j]?=some s->us[o+(n+i)*sz+j]?=some v->D w' H' μ' s v):
 (∀i,i<n+m->((λj=>if j<n then f j else g (j-n)) i).length=sz/\((λj=>if j<n then f j else g (j-n)) i).all SV.pure=true)/\
   ∀(i j:Nat) (s:SV) (v:Value),i<n+m->((λj=>if j<n then f j else g (j-n)) i)[j]?=some s->us[o+i*sz+j]?=some v->D w' H' μ' s v:=by
 refine⟨λi k=> ?_,λi j s v k hs c=> ?_⟩
 .show (if i<n then f i else g (i-n)).length=sz/\(if i<n then f i else g (i-n)).all SV.pure=true;split
  .exact a i ‹_›
  .exact b _ Dv
 .replace hs:(if i<n then f i else g (i-n))[j]?=some s:=hs;split at hs
  .exact d i j s v ‹_› hs c
  .exact e (i-n) j s v Dv hs (by rw[show n+(i-n)=i from Dv];exact c)
end
section
variable{P:Program}{w:World}{μ:Mu}{B0:Nat}{X A:Nat->Prop}{own ownN:List Blk}
theorem WD{α:Type}{a b c:List α}{i:Nat}{v:α}(h:(a++b++c)[i]?=some v):(i<a.length->a[i]?=some v)/\(a.length<=i->i<a.length+b.length->b[i-a.length]?=some v):=by
 refine⟨λd=> ?_,λe h2=> ?_⟩
 .rwa[M8,Jc d]at h
 .rwa[M8,Jm e,Jc Dv]at h
theorem MG{i j n sz:Nat}(hi:i<n)(hj:j<sz):i*sz+j<n*sz:=by
 have:i*sz+sz<=n*sz:=by rw[<-Mg];exact Ka _ hi
 omega
theorem c26(I:Own B0 X A w μ own)(J:B0<=w.heap.size)(da:μ own.length=none){T ty:TypeId}{x y:SV}{v u:Value}{R:Prop}{k:Nat}{own':List Blk}{M:Bool}(hx:D w (held A μ) μ x v)(hy:D w (held A μ) μ y u)
 (B:TP P own T x y=some (R,k,own',M)) (hp:R):
 ∃r w' μ',(Builtin.append_ #[T,T] ty #[v,u]).run P w=.ok r w'/\D w' (held A μ') μ' (.osl k) r/\
  ((M=true/\After B0 X A w w' μ μ' own'/\∀j,j≠own.length->μ' j=μ j)\/(M=false/\After' [k] B0 X A w w' μ μ' own'/\∀j,j≠k->μ' j=μ j)):=by
 simp only[TP,J8]at B;obtain⟨e,hT,d,hi,z,hz,⟨m,g⟩,V0,B⟩:=B;have ht:=QT hT;split at B;rotate_left
 .cases B
 rename_i qw;obtain⟨tk,f9,qw⟩:=qw;obtain⟨inf',F,b8,mn,rfl,pu⟩:=SI (w:=w) (H:=held A μ) (μ:=μ) hz;rw[hi]at b8;cases b8;have pe:F.cells.size=d.size:=Fa;have fy:∀v∈F.cells.toList,v.oneCell'=true:=SO pu qw;obtain⟨a',O,news,rfl,tp,X8,j7,S,jz,P3,zc⟩:=b0q I (λ_ _ h=>h) hy V0;have zu:(Builtin.firstCells d.size m (.slice a' m O)).run P w=.ok news.toArray w:=Sq j7 P3;have fw:(Builtin.firstCells d.size m (.slice a' m O)).run P w.drew=.ok news.toArray w.drew:=Sq j7 P3;unfold b4v at B;split at B
 ·-- nil
  simp only[Id]at B;obtain⟨rfl,rfl,rfl,rfl⟩:=B;obtain⟨rz,G⟩:=hp;cases hx;have U:Own B0 X A w μ (own++[.row e d.size m g none]):=I.more WG;have V:(own++[Blk.row e d.size m g none])[own.length]?=some (.row e d.size m g none):=Dx;rcases Kg m with K|K
  .subst K;obtain rfl:news=[]:=Kp G6;obtain⟨o1,o2⟩:=c0s U da V (a:=none);exact D3
  .have hr:=b01 (P:=P) (w:=w) (ty:=ty) ht hi mn (a:=none) (a':=a') (n:=0) (m:=m) (k:=O) (c:=0) (olds:=[]) (news:=news) (by simp[Builtin.firstCells]) fw Dv Dv (by simpa using G);simp only[Kv,N1]at hr;have P4:=U.drew;have W:=grownCap_ge w m 0 e;have Y:=Nf w m 0 e F0;obtain⟨o1,o2⟩:=Tn (x:=.slice (some ⟨w.heap.size,0,none⟩) m (grownCap w m 0 e)) P4 J da V (.cells (news++(Builtin.zeroCells F.cells (grownCap w m 0 e-m)).toList).toArray e) (λb G=>(Ya Dv).1 G) (λμ' _ E=>by
    refine⟨_,_,rfl,W,Y,.inl rfl,jz,.inr ⟨w.heap.size,0,_,Dv,rfl,Mr w.drew _,?_,λv l=> ?_,λi j s v b8 hs l=> ?_⟩⟩
    .simp only[Iw,j7,L8,Nj,pe,<-Lx];rw[show m+(grownCap w m 0 e-m)=grownCap w m 0 e from Dv];exact C2
    .rcases Jy.1 l with l|l
     .exact S v l
     .exact VW fy _ v l
    .have hj:j<d.size:=Fn;rw[Kv,Jc (by rw[j7];exact MG b8 hj)]at l;exact((zc i j s v b8 hs l).keep Keeps.drew).keep E)
   refine⟨_,_,_,hr,.osl Ed,.inl ⟨rfl,⟨o1,Fr.drew.trans (Fr.alloc _ J),?_⟩,λj hj=>Ek⟩⟩;exact Cn
 ·-- a view without room
  rename_i sz n f c;split at B;rotate_left
  .cases B
  rename_i bn;subst bn;simp only[Id]at B;obtain⟨rfl,rfl,rfl,rfl⟩:=B;obtain⟨Q,fx,rz,G⟩:=hp;obtain⟨c,rfl⟩:∃O,c=some O:=by
   cases c with
   |none=>exact Q.elim
   |some c=>exact⟨c,rfl⟩
  replace Q:n=c:=Q;obtain⟨a,t,olds,rfl,hnc0,hcx0,jy,w9,dp,pf,P5⟩:=b0q I (λ_ _ h=>h) hx (sz:=d.size) (n:=n) (f:=f) (by simp[Rp]);have P6:t=n:=by
   cases hx with
   |sl a b o m g hm hx Z b7 hl hd=>
    rcases Z with Z|Z
    .cases Z
    .cases Z;exact Q.symm
  subst P6;have U:Own B0 X A w μ (own++[.row e d.size (t+m) (λj=>if j<t then f j else g (j-t)) none]):=I.more WG;have V:(own++[Blk.row e d.size (t+m) (λj=>if j<t then f j else g (j-t)) none])[own.length]?=some (.row e d.size (t+m) (λj=>if j<t then f j else g (j-t)) none):=Dx;rcases Kg m with K|K
  .subst K;obtain rfl:t=0:=Dv;obtain rfl:news=[]:=Kp G6;obtain⟨o1,o2⟩:=c0s U da V (a:=a);exact D3
  .have P7:(Builtin.firstCells d.size t (.slice a t t)).run P w.drew=.ok olds.toArray w.drew:=Sq jy pf;have hr:=b01 (P:=P) (w:=w) (ty:=ty) ht hi mn (olds:=olds) (news:=news) P7 fw Dv rz G;have P4:=U.drew;have W:=grownCap_ge w (t+m) t e;have Y:=Nf w (t+m) t e F0;obtain⟨o1,o2⟩:=Tn (x:=.slice (some ⟨w.heap.size,0,none⟩) (t+m) (grownCap w (t+m) t e)) P4 J da V (.cells (olds++news++(Builtin.zeroCells F.cells (grownCap w (t+m) t e-(t+m))).toList).toArray e) (λb G=>(Ya Dv).1 G) (λμ' _ E=>by
    have L:=b2q (w':=w.drew.alloc (.cells (olds++news++(Builtin.zeroCells F.cells (grownCap w (t+m) t e-(t+m))).toList).toArray e)) (H':=held A μ') (μ':=μ') (o:=0) (us:=olds++news++(Builtin.zeroCells F.cells (grownCap w (t+m) t e-(t+m))).toList) dp jz
     (λi j s v b8 hs l=>by have hj:j<d.size:=G7;have N:=MG b8 hj;have gw:=(WD l).1 Fd;rw[Kv]at gw;exact((P5 i j s v b8 hs gw).keep Keeps.drew).keep E)
     (λi j s v b8 hs l=>by have hj:j<d.size:=Fn;have N:=MG b8 hj;have mz:(t+i)*d.size=t*d.size+i*d.size:=Lx _ _ _;have:=(WD l).2 Fd (by rw[jy,j7];omega);rw[jy,show 0+(t+i)*d.size+j-t*d.size=i*d.size+j from Dv]at this;exact((zc i j s v b8 hs this).keep Keeps.drew).keep E)
    refine⟨_,_,rfl,W,Y,.inl rfl,L.1,.inr ⟨w.heap.size,0,_,Dv,rfl,Mr w.drew _,?_,λv l=> ?_,L.2⟩⟩
    .simp only[Iw,jy,j7,L8,Nj,pe,<-Lx];rw[show t+m+(grownCap w (t+m) t e-(t+m))=grownCap w (t+m) t e from Dv];exact C2
    .rcases Jy.1 l with l|l
     .rcases Jy.1 l with l|l
      .exact w9 v l
      .exact S v l
     .exact VW fy _ v l)
   refine⟨_,_,_,hr,.osl Ed,.inl ⟨rfl,⟨o1,Fr.drew.trans (Fr.alloc _ J),?_⟩,λj hj=>Ek⟩⟩;exact Cn
 .rename_i k0;split at B;rotate_left
  .cases B
  rename_i C sz n f c hk;split at B;rotate_left
  .cases B
  rename_i sb;obtain⟨rfl,rfl⟩:=sb;simp only[Id]at B;obtain⟨rfl,rfl,rfl,rfl⟩:=B;obtain⟨rz,G⟩:=hp;cases hx with
  |osl h=>
   obtain⟨bl,e1,ba⟩:=I.blk _ _ h;rw[hk]at e1;cases e1;obtain⟨a,q,e2,Q,X9,ge,dp,be⟩:=ba;cases e2;rename_i q a;have grow:q<n+m->∀(olds:List Value),olds.length=n*d.size->(∀v∈olds,v.oneCell'=true)->(Builtin.firstCells d.size n (.slice a n q)).run P w.drew=.ok olds.toArray w.drew->
    (∀(i j:Nat) (s:SV) (v:Value),i<n->(f i)[j]?=some s->olds[i*d.size+j]?=some v->D w (held A μ) μ s v)->
    ∃r w' μ',(Builtin.append_ #[T,T] ty #[.slice a n q,.slice a' m O]).run P w=.ok r w'/\D w' (held A μ') μ' (.osl k0) r/\
     ((false=true/\After B0 X A w w' μ μ' ((own.map (Blk.kill [k0])).set k0 (.row C d.size (n+m) (λj=>if j<n then f j else g (j-n)) (PB c (n+m))))/\∀j,j≠own.length->μ' j=μ j)\/
       (false=false/\After' [k0] B0 X A w w' μ μ' ((own.map (Blk.kill [k0])).set k0 (.row C d.size (n+m) (λj=>if j<n then f j else g (j-n)) (PB c (n+m))))/\∀j,j≠k0->μ' j=μ j)):=by
    intro hg olds jy w9 P7 P5;have hr:=b01 (P:=P) (w:=w) (ty:=ty) ht hi mn (olds:=olds) (news:=news) P7 fw hg rz G;have W:=grownCap_ge w (n+m) q C;have Y:=Nf w (n+m) q C F0;have ha:=b3h (w':=w.drew.alloc (.cells (olds++news++(Builtin.zeroCells F.cells (grownCap w (n+m) q C-(n+m))).toList).toArray C)) (y:=.slice (some ⟨w.heap.size,0,none⟩) (n+m) (grownCap w (n+m) q C))
     (bl:=.row C d.size (n+m) (λj=>if j<n then f j else g (j-n)) (PB c (n+m))) I J h ⟨_,_,_,rfl⟩ ⟨_,_,_,rfl⟩
     (.inr ⟨w.heap.size,OM Dv,J9 _,Dx,J⟩) Dx (λb gm _=>Mn w.drew _ b gm) rfl rfl rfl (λE=>by
       have L:=b2q (w':=w.drew.alloc (.cells (olds++news++(Builtin.zeroCells F.cells (grownCap w (n+m) q C-(n+m))).toList).toArray C))
        (H':=held A (μ.set k0 (.slice (some ⟨w.heap.size,0,none⟩) (n+m) (grownCap w (n+m) q C)))) (μ':=μ.set k0 (.slice (some ⟨w.heap.size,0,none⟩) (n+m) (grownCap w (n+m) q C))) (o:=0) (us:=olds++news++(Builtin.zeroCells F.cells (grownCap w (n+m) q C-(n+m))).toList) dp jz
        (λi j s v b8 hs l=>by have hj:j<d.size:=G7;have N:=MG b8 hj;have gw:=(WD l).1 Fd;rw[Kv]at gw;exact KI E (P5 i j s v b8 hs gw) (Ja.1 (dp i b8).2 s (J6 hs)))
        (λi j s v b8 hs l=>by have hj:j<d.size:=Fn;have N:=MG b8 hj;have mz:(n+i)*d.size=n*d.size+i*d.size:=Lx _ _ _;have:=(WD l).2 Fd (by rw[jy,j7];omega);rw[jy,show 0+(n+i)*d.size+j-n*d.size=i*d.size+j from Dv]at this;exact KI E (zc i j s v b8 hs this) (Ja.1 (jz i b8).2 s (J6 hs)))
       refine⟨_,_,rfl,W,Y,.inl (d7b ge Dv),L.1,.inr ⟨w.heap.size,0,_,Dv,rfl,Mr w.drew _,?_,λv l=> ?_,L.2⟩⟩
       .simp only[Iw,jy,j7,L8,Nj,pe,<-Lx];rw[show n+m+(grownCap w (n+m) q C-(n+m))=grownCap w (n+m) q C from Dv];exact C2
       .rcases Jy.1 l with l|l
        .rcases Jy.1 l with l|l
         .exact w9 v l
         .exact S v l
        .exact VW fy _ v l)
    exact D4
   rcases be with rfl|⟨b,o,vs,c7,rfl,hh,ho,h1,hd⟩
   .obtain rfl:n=0:=Dv;rcases Kg m with K|K
    .subst K;obtain rfl:news=[]:=Kp G6;have ha:=b3h (w':=w) (y:=.slice a 0 0) (bl:=.row C d.size (0+0) (λj=>if j<0 then f j else g (j-0)) (PB c (0+0))) I J h ⟨_,_,_,rfl⟩ ⟨_,_,_,rfl⟩ (.inl rfl) (J9 _) (λ_ _ _=>rfl) rfl rfl rfl
      (λ_=>⟨a,0,rfl,J9 _,F8,c1s ge,λi hi=>absurd hi (Jq _),.inl rfl⟩)
     exact⟨_,w,_,b04 ht hi zu,.osl Ed,.inr ⟨rfl,ha,λj hj=>Ek⟩⟩
    .exact grow Dv [] Dx Dx (Sq (w:=w.drew) Dx (λh=>absurd h (M7 _))) (λi j s v b8=>absurd b8 (Jq _))
   .by_cases qx:n+m<=q
    .have bi:(n+m)*d.size<=q*d.size:=Ka _ qx;have P8:(n+m)*d.size=n*d.size+m*d.size:=Lx _ _ _;have hr:=b90 (P:=P) (ty:=ty) (o:=o) ht hi hh zu qx G8 S;have N:=PY hh;have ha:=b3h (w':=putRow w b (over vs (o+n*d.size) news) C) (y:=.slice (some ⟨b,o,none⟩) (n+m) q)
      (bl:=.row C d.size (n+m) (λj=>if j<n then f j else g (j-n)) (PB c (n+m))) I J h ⟨_,_,_,rfl⟩ ⟨_,_,_,rfl⟩ (.inl ((OM c7).trans (OM c7).symm)) Gs (λi _ b9=>b0e (λe=>b9 (by subst e;exact OM c7))) rfl rfl rfl (λE=>by
        have L:=b2q (w':=putRow w b (over vs (o+n*d.size) news) C) (H':=held A (μ.set k0 (.slice (some ⟨b,o,none⟩) (n+m) q))) (μ':=μ.set k0 (.slice (some ⟨b,o,none⟩) (n+m) q)) (o:=o)
         (us:=over vs (o+n*d.size) news) dp jz
         (λi j s v b8 hs l=>by have hj:j<d.size:=G7;have N:=MG b8 hj;rw[NF _ _ _ _ G8,J3 Dv]at l;exact KI E (hd i j s v b8 hs l) (Ja.1 (dp i b8).2 s (J6 hs)))
         (λi j s v b8 hs l=>by have hj:j<d.size:=Fn;have N:=MG b8 hj;have mz:(n+i)*d.size=n*d.size+i*d.size:=Lx _ _ _;rw[NF _ _ _ _ G8,Iz G8,show o+(n+i)*d.size+j-(o+n*d.size)=i*d.size+j from Dv]at l;exact KI E (zc i j s v b8 hs l) (Ja.1 (jz i b8).2 s (J6 hs)))
        exact⟨_,_,rfl,qx,X9,c1s ge,L.1,.inr ⟨b,o,_,c7,rfl,b07 N,Gu,TV _ _ _ h1 S,L.2⟩⟩)
     exact D4
    .have bi:n*d.size<=q*d.size:=Ka _ Q;refine grow Dv ((vs.drop o).take (n*d.size)) E5 (λv l=>h1 v (List.mem_of_mem_drop (List.mem_of_mem_take l))) ?_ (λi j s v b8 hs l=>hd i j s v b8 hs (by rw[L2];exact(HE l).2));refine Sq (w:=w.drew) E5 (λ_=>⟨_,rfl,rfl,λj u hu=> ?_⟩);rw[Ku,SX (w:=w.drew) hh];exact(HE hu).2
 .cases B
def b5x(P:Program)(own:List Blk)(T:TypeId)(k:Nat)(lo hi:Option (Option SV)):Option (Prop×List Blk):=
 (OZ P T).bind λe=>match own[k]? with
 |some (.row b a n f c)=>(Pi 0 lo).bind λl=>(Pi n hi).bind λh=>
  if CX P e=some a then some (0<=l/\l<=h/\h<=n,(own.map (Blk.kill [k])).set k (.row b a (h-l).toNat (λj=>f (l.toNat+j)) (c.map λm=>m-l.toNat)))else none
 |_=>none
theorem c0n(G:Own B0 X A w μ own)(W:B0<=w.heap.size){T:TypeId}{k:Nat}{v:Value}{lo hi:Option (Option SV)}{E F:Option Value}{z:Prop}{own':List Blk}(hx:D w (held A μ) μ (.osl k) v)
 (Y:DO w (held A μ) μ lo E) (Z:DO w (held A μ) μ hi F) (t:b5x P own T k lo hi=some (z,own')) (hp:z):
 ∃r x,(Instr.sliceAt T v E F none).run P w=.ok r w/\D w (held A x) x (.osl k) r/\After' [k] B0 X A w w μ x own'/\own'.length=own.length/\k<own.length/\∀j,j≠k->x j=μ j:=by
 have B:∀{d:Int} {o:Option (Option SV)} {u:Option Value} {n:Int},DO w (held A μ) μ o u->Pi d o=some n->(u=none/\o=none/\n=d)\/∃k,u=some (.int k n)/\o.isNone=false:=by
  intro d o u n y C;unfold Pi at C;split at C
  .cases C;cases u with
   |none=>exact .inl ⟨rfl,rfl,rfl⟩
   |some _=>simp[DO]at y
  .cases C;cases u with
   |none=>simp[DO]at y
   |some u=>simp only[DO]at y;cases y;exact .inr ⟨_,rfl,rfl⟩
  .cases C
 simp only[b5x,J8]at t;obtain⟨e,hT,t⟩:=t;have H:=QT hT;have kr:P.elem T=e:=by simp[Program.elem,H]
 split at t;rotate_left
 .cases t
 rename_i e' sz n f c I;simp only[J8]at t;obtain⟨l,mq,h,w5,t⟩:=t;split at t;rotate_left
 .cases t
 rename_i J;simp only[Id]at t;obtain⟨rfl,rfl⟩:=t;obtain⟨h0,h1,h2⟩:=hp;simp only[CX,J7]at J;obtain⟨g,bq,rfl⟩:=J;cases hx with
 |osl K=>
  obtain⟨bl,L,ba⟩:=G.blk _ _ K;rw[I]at L;cases L;obtain⟨a,m,e2,fx,jc,hc,M,N⟩:=ba;cases e2;rename_i m a;have jq:(Instr.sliceBounds true n m E F none).run P w=.ok (l.toNat,h.toNat,m) w:=by
   rcases B Y mq with⟨rfl,_,rfl⟩|⟨O,rfl,_⟩<;>rcases B Z w5 with⟨rfl,_,rfl⟩|⟨Q,rfl,_⟩
   .simp[Instr.sliceBounds]
   .simp[Instr.sliceBounds,Lb w Q h m _ Dv Dv]
   .simp[Instr.sliceBounds,Lb w O l n _ Dv Dv]
   .have:=Lb (P:=P) w O l h.toNat .sliceB Dv Dv;simp[Instr.sliceBounds,Lb w Q h m _ Dv Dv,this]
  have bi:l.toNat<=m:=Dv;refine⟨.slice (if m=l.toNat then a else a.map (·.add (l.toNat*g.size))) (h.toNat-l.toNat) (m-l.toNat),μ.set k (.slice (if m=l.toNat then a else a.map (·.add (l.toNat*g.size))) (h.toNat-l.toNat) (m-l.toNat)),?_,.osl Ed,b18 G W K ⟨_,_,_,rfl⟩ ⟨_,_,_,rfl⟩ ?_ (J9 _) (λ_ _ _=>rfl) rfl rfl rfl (λbv=> ?_),Dx,(J4.1 I).1,λj hj=>Ek⟩
  .simp only[Instr.sliceAt,Ie,K5 H,Instr.slice,jq,HY bq]
  .by_cases q:m=l.toNat
   .left;rw[q,Ks];exact XV
   .right;left;rw[J3 q];rcases N with h3|⟨b,o,R,S,rfl,U,ho,V,y⟩
    .omega
    .simp only[Kb,Ku];exact(OM Dv).trans (OM S).symm
  .have eh:(h-l).toNat=h.toNat-l.toNat:=Dv;rw[eh];refine⟨if m=l.toNat then a else a.map (·.add (l.toNat*g.size)),m-l.toNat,rfl,Dv,Dv,?_,λi hi=>M _ Dv,?_⟩
   .rcases hc with rfl|rfl
    .exact .inl rfl
    .exact .inr rfl
   .by_cases q:m=l.toNat
    .left;omega
    .right;rcases N with h3|⟨b,o,R,S,rfl,U,ho,V,y⟩
     .omega
     .have mz:(m-l.toNat)*g.size=m*g.size-l.toNat*g.size:=Nat.sub_mul _ _ _;have hmle:l.toNat*g.size<=m*g.size:=Ka _ bi;refine⟨b,o+l.toNat*g.size,R,Dv,by rw[J3 q];simp[Ku],U,Dv,V,λi j s v hi hs hv=> ?_⟩;refine KI bv (y (l.toNat+i) j s v Dv hs ?_) (Ja.1 (M _ Dv).2 s (J6 hs));rwa[show o+(l.toNat+i)*g.size+j=o+l.toNat*g.size+i*g.size+j from by rw[Lx];omega]
end
def SY:List IntKind->List SV->Option (List Int)
 | [],[]=>some []
 |k::a,.int b n::r=>if k=b then(SY a r).map (n:: ·)else none
 |_,_=>none
def Wy:KT->SV->Option (List Int)
 |.int1 k,.int a n=>if k=a then some [n]else none
 |.ints c,.agg d=>SY c d
 |.str,.con (.string s)=>some (s.data.toList.map λb=>(b.toNat:Int))
 |_,_=>none
section
variable{w:World}{H:Nat->Prop}{μ:Mu}
theorem c3g:∀{ks:List IntKind} {cs:List SV} {q:List Int} {vs:List Value},SY ks cs=some q->vs.length=cs.length->(∀(i:Nat) (s:SV) (v:Value),cs[i]?=some s->vs[i]?=some v->D w H μ s v)->
 vs=HZ ks q/\q.length=ks.length:=by
 intro ks;induction ks with
 |nil=>
  intro cs q vs h hl _;match cs,h with
  | [],h=>simp[SY]at h;subst h;simp at hl;subst hl;exact⟨rfl,rfl⟩
  |s::_,h=>simp[SY]at h
 |cons k ks b=>
  intro cs q vs h hl a;match cs,h with
  | [],h=>simp[SY]at h
  |.int k' n::r,h=>
   simp only[SY]at h;split at h
   .rename_i e;subst e;simp only[J7]at h;obtain⟨q',c,rfl⟩:=h;match vs,hl with
    |v::vs,hl=>
     have d:=a 0 _ v rfl rfl;cases d;obtain⟨f,g⟩:=b (vs:=vs) c E9 (λi s u hs j=>a (i+1) s u Fp (by simpa using j));exact⟨by simp[HZ,<-f],by simp[g]⟩
   .cases h
  |.bool _::_,h|.con _::_,h|.own _ _::_,h|.osl _::_,h|.oel _ _ _ _::_,h|.sl _ _ _ _::_,h|.rel _ _ _ _ _::_,h|.agg _::_,h|.tup _::_,h|.clo _ _::_,h|.omp _::_,h|.mp _ _ _ _::_,h|.any::_,h=>simp[SY]at h
theorem c3r(s:ByteArray):g1c (s.data.toList.map λb=>(b.toNat:Int))=s:=by
 obtain⟨⟨l⟩⟩:=s;simp only[g1c,Ma];congr 1;apply Mc;induction l with
 |nil=>rfl
 |cons a l c=>simp[c]
theorem b1n{K:KT}{s:SV}{v:Value}{q:List Int}(h:Wy K s=some q)(a:D w H μ s v):v=kv K q/\LO K q:=by
 unfold Wy at h;split at h
 .split at h
  .rename_i e;cases h;subst e;cases a;exact⟨rfl,rfl⟩
  .cases h
 .cases a with
  |agg vs d f=>
   obtain⟨g,i⟩:=c3g h d f;exact⟨by rw[g];rfl,i⟩
 .cases a;simp only[Ju]at h;subst h;refine⟨by simp only[kv,c3r],λn c=> ?_⟩;simp only[Jp]at c;obtain⟨b,_,rfl⟩:=c;have:=b.toNat_lt;omega
 .cases h
end
section
variable{P:Program}{w:World}
theorem b8e{r:Nat}{K:KT}{k:Bool}{has:List Int->Bool}{g:List Int->List Value}{key:TypeId}(p:KLaw P key K)(h:MapAt w r K k has g){q:List Int}(s:LO K q):
 ∃d c,w.heap[r]?=some (.map d c)/\(∀e∈d.toList,∃q,e.key=kv K q/\LO K q/\has q=true/\e.val=IC k (g q))/\d.toList.Pairwise (λa b=>a.key≠b.key)/\(∀q,has q=true->LO K q/\∃e∈d.toList,e.key=kv K q)/\
  ∃x,(Instr.findKey key (kv K q) d.toList).run P w=.ok x w/\((x=none/\has q=false/\∀e∈d.toList,e.key≠kv K q)\/∃(j:Nat) (e:MapEntry),x=some (j,IC k (g q))/\has q=true/\d.toList[j]?=some e/\e.key=kv K q):=by
 obtain⟨d,c,y,l,t,z⟩:=h.ex;refine⟨d,c,y,l,z,t,?_⟩;obtain⟨x,A,hx⟩:=p.find w q d.toList s (λe m=>by obtain⟨f,n,o,_⟩:=l e m;exact⟨f,o,n⟩);refine⟨x,A,?_⟩;rcases hx with⟨rfl,u⟩|⟨j,e,rfl,v,i⟩
 .refine .inl ⟨rfl,?_,u⟩;cases hb:has q with
  |false=>rfl
  |true=>
   obtain⟨_,e,m,i⟩:=t q hb;exact absurd i (u e m)
 .obtain⟨f,n,o,B,C⟩:=l e (J6 v);have:f=q:=p.inj f q o s (n.symm.trans i);subst this;exact .inr ⟨j,e,by rw[C],B,v,i⟩
theorem b9a{r:Nat}{b:Array MapEntry}{a:Nat}(h:w.heap[r]?=some (.map b a)):(getObj r).run P w=.ok (.map b a) w:=by simp[getObj,Sem.run,h]
theorem b8j{T key a:TypeId}{r:Nat}{K:KT}{c:Bool}{has:List Int->Bool}{g:List Int->List Value}{q:List Int}{ok:Bool}(i:P.underlying T=some (.map key a))(d:KLaw P key K)(h:MapAt w r K c has g)(f:LO K q)
 {z:Value} (k:has q=false->(zeroValue a).run P w=.ok z w):
 (Instr.lookup T (.map (some r)) (kv K q) ok).run P w=.ok (if ok then .tuple #[if has q then IC c (g q)else z,.bool (has q)]else if has q then IC c (g q)else z) w:=by
 obtain⟨l,clock,m,_,_,_,x,n,hx⟩:=b8e d h f;simp only[Instr.lookup,Ie,K5 i,b9a m,d.check w l.isEmpty q f,n];rcases hx with⟨rfl,b,_⟩|⟨j,e,rfl,b,_⟩
 .simp only[b,Ie,k b,Ik]
 .simp only[b,Ie,Ke]
def KA(has:List Int->Bool)(q:List Int):List Int->Bool:=λp=>decide (p=q)||has p
def ND(w:World)(r:Nat)(o:Obj):World:={w with heap:=w.heap.setIfInBounds r o}
theorem b5s{r:Nat}{o:Obj}(h:r<w.heap.size):(ND w r o).heap[r]?=some o:=by simp[ND,h]
theorem TI{r i:Nat}{o:Obj}(h:i≠r):(ND w r o).heap[i]?=w.heap[i]?:=by simp[ND,Ne.symm h]
theorem Wd{r:Nat}{o:Obj}:(ND w r o).heap.size=w.heap.size:=by simp[ND]
theorem b7t{r:Nat}{c:Array MapEntry}{a:Nat}{b:Obj}(h:w.heap[r]?=some (.map c a)):(setObj r b).run P w=.ok () (ND w r b):=by simp[setObj,Sem.run,ND,h]
theorem b33{T key t:TypeId}{r:Nat}{K:KT}{k:Bool}{has:List Int->Bool}{g:List Int->List Value}{q:List Int}{us:List Value}{v:Value}(W:v=IC k us)(H:P.underlying T=some (.map key t))(u:KLaw P key K)(h:MapAt w r K k has g)(n:LO K q):
 ∃o,(Instr.mapUpdate T (.map (some r)) (kv K q) v).run P w=.ok () (ND w r o)/\MapAt (ND w r o) r K k (KA has q) (λp=>if p=q then us else g p):=by
 have I:=h.lt;obtain⟨d,c,y,J,A,B,x,L,hx⟩:=b8e u h n;subst W;rcases hx with⟨rfl,M,N⟩|⟨j,e,rfl,M,hj,z⟩
 .refine⟨.map (d.push {key:=kv K q,val:=IC k us,born:=c}) (c+1),?_,⟨_,_,b5s I,λe f=> ?_,λp l=> ?_,?_⟩⟩
  .simp only[Instr.mapUpdate,It,K5 H,b9a y,u.check w false q n,L,b7t y]
  .simp only[Array.toList_push,Jy,Js]at f;rcases f with f|rfl
   .obtain⟨p,e1,e2,e3,e4⟩:=J e f;have:p≠q:=λC=>N e f (by rw[e1,C]);exact D5
   .exact⟨q,rfl,n,by simp[KA],Dx⟩
  .simp only[KA,K1,Jb]at l;rcases l with rfl|l
   .exact⟨n,{key:=kv K p,val:=IC k us,born:=c},Dx,rfl⟩
   .obtain⟨a,e,f,X⟩:=B p l;exact⟨a,e,by simp[f],X⟩
  .simp only[Array.toList_push];rw[List.pairwise_append];exact⟨A,List.pairwise_singleton _ _,λa Y b O=>by simp at O;subst O;exact N a Y⟩
 .refine⟨.map (d.modify j λe=>{e with key:=kv K q,val:=IC k us}) c,?_,?_⟩
  .have Z:d[j]?=some e:=Em;have d9:=u.stays w q n;simp only[Instr.mapUpdate,It,K5 H,b9a y,u.check w false q n,L,Z,Iq,z,d9,b7t y]
  .have E:(d.modify j λe=>{e with key:=kv K q,val:=IC k us}).toList=d.toList.set j {e with key:=kv K q,val:=IC k us}:=by
    apply Ly;intro i;rw[Kz,Md,List.getElem?_set];have s:j<d.toList.length:=(J4.1 hj).1;by_cases e1:j=i
    .subst e1;rw[Iz rfl,Iz rfl,Iz s,<-Kz,hj];rfl
    .rw[J3 e1,J3 e1,Kz]
   have Q:(d.toList.set j {e with key:=kv K q,val:=IC k us}).map (·.key)=d.toList.map (·.key):=by
    apply Ly;intro i;rw[Jr,Jr,List.getElem?_set];have s:j<d.toList.length:=(J4.1 hj).1;by_cases e1:j=i
    .subst e1;rw[Iz rfl,Iz s,hj];simp[z]
    .rw[J3 e1]
   have Y0:(d.toList.map (·.key)).Pairwise (· ≠ ·):=L4.2 A;refine⟨_,_,b5s I,λF f=> ?_,λp l=> ?_,?_⟩
   .rw[E]at f;obtain⟨i,hi,eg⟩:=Jw.1 f;have m:(d.toList.set j {e with key:=kv K q,val:=IC k us})[i]?=some F:=by rw[Iy hi,eg]
    rw[List.getElem?_set]at m;split at m
    .split at m
     .cases m;exact⟨q,rfl,n,by simp[KA],Dx⟩
     .cases m
    .rename_i b9;obtain⟨p,e1,e2,e3,e4⟩:=J F (J6 m);have:p≠q:=λC=>by
      subst C;have R:i<d.toList.length:=(J4.1 m).1;have s:j<d.toList.length:=(J4.1 hj).1;have S:=K8.1 A;have U:d.toList[i]=F:=(J4.1 m).2;have V:d.toList[j]=e:=(J4.1 hj).2;rcases Nd b9 with G|G
      .exact S j i s R G (by rw[U,V,z];exact e1.symm)
      .exact S i j R s G (by rw[U,V,z];exact e1)
     exact D5
   .have zd:LO K p/\∃e∈d.toList,e.key=kv K p:=by
     simp only[KA,K1,Jb]at l;rcases l with rfl|l
     .exact B p M
     .exact B p l
    obtain⟨a,e0,f,sc⟩:=zd;have:kv K p∈(d.toList.set j {e with key:=kv K q,val:=IC k us}).map (·.key):=by rw[Q];exact Jp.2 ⟨e0,f,sc⟩
    obtain⟨e1,ze,gy⟩:=Jp.1 this;exact⟨a,e1,by rw[E];exact ze,gy⟩
   .rw[E];exact L4.1 (by rw[Q];exact Y0)
end
def PX(ρ:Operand->Option SV):Option Operand->Option (Option SV)
 |none=>none
 |some x=>some (ρ x)
def d79(E:Env)(own:List Blk)(ρ:Operand->Option SV)(c:Call):Option (Prop×SV):=
 match c.callee with
 |.builtin b=>(c.args.toList.mapM ρ).bind λa=>b65 E.P own b c.argTypes.toList a
 |_=>none
def YM(own:List Blk):SV->Option (KT×Bool×(List Int->Bool)×(List Int->List SV))
 |.mp K b a val=>some (K,b,a,val)
 |.omp k=>match own[k]? with
  |some (.map K b a val)=>some (K,b,a,val)
  |_=>none
 |_=>none
def zAgg(P:Program)(T:TypeId):Option Bool:=(P.info? T).bind λi=>i.zero.map λz=>match z with
 |.agg _=>true
 |_=>false
def b46(E:Env)(own:List Blk)(T:TypeId)(m i:SV)(ok:Bool):Option (Prop×SV):=
 match E.P.underlying T with
 |some (.map _ a)=>(YM own m).bind λ(K,c,b,val)=>if E.kt T=some K/\Io E.P a=some c/\zAgg E.P a=some c then
  (Wy K i).bind λq=>(Ut E.P a (val q)).map λs=>(b q=false->Ov E.P a=some (val q),if ok then .tup [s,.bool (b q)]else s)
  else none
 |_=>none
def zPtr(P:Program)(T:TypeId):Bool:=match (P.info? T).bind (·.zero)with
 |some (.pointer none)=>true
 |_=>false
def b69(E:Env)(own:List Blk)(T:TypeId)(m i:SV)(ok:Bool):Option (Prop×SV):=
 match m with
 |.omp j=>match own[j]? with
  |some (.pmap K k b BV)=>match E.P.underlying T with
   |some (.map _ a)=>if E.kt T=some K/\Io E.P a=some false/\zPtr E.P a=true then
    (Wy K i).map λq=>(True,if ok then .tup [.fp (b q) k (BV q) 0,.bool (b q)]else .fp (b q) k (BV q) 0)else none
   |_=>none
  |_=>b46 E own T m i ok
 |_=>b46 E own T m i ok
def c47(P:Program)(T:TypeId)(x i:SV):Option (Prop×SV):=
 match i with
 |.int _ n=>match P.underlying T with
  |some (.array len e)=>match x with
   |.agg b=>match CX P e with
    |some a=>if n.toNat<len/\b.length=len*a then(Ut P e ((b.drop (n.toNat*a)).take a)).map λs=>(0<=n,s)else none
    |none=>none
   |_=>none
  |some .string=>match x with
   |.con (.string s)=>some (0<=n/\n.toNat<s.size,.int .u8 (((s.data.toList.getD n.toNat 0).toNat:Nat):Int))
   |_=>none
  |_=>none
 |_=>none
def d4u(P:Program)(own:List Blk)(b:BinOp)(T:TypeId):SV->SV->Option (Prop×SV)
 |.osl k,.con (.slice none 0 0)=>match own[k]?,P.underlying T with
  |some (.row _ _ n _ _),some (.slice _)=>match b with
   |.eql=>some (True,.ub (n=0) True)
   |.neq=>some (True,.ub True (n=0))
   |_=>none
  |_,_=>none
 |_,_=>none
def d5r(E:Env)(own:List Blk)(ρ:Operand->Option SV)(h:Op):Option (Prop×SV):=
 match h with
 |.move x=>(ρ x).map λs=>(True,s)
 |.assign x=>(ρ x).map λs=>(True,s)
 |.nilCheck x=>match ρ x with
  |some (.own k o)=>some (True,.own k o)
  |some (.oel k e i o)=>some (True,.oel k e i o)
  |some (.rel e n f i o)=>some (True,.rel e n f i o)
  |some (.clo f g)=>some (True,.clo f g)
  |_=>none
 |.load T x=>(ρ x).bind λp=>UK E.P own T p
 |.fieldAddr T x f=>(ρ x).bind λp=>b28 E.P T f p
 |.field T x f=>(ρ x).bind λp=>c4s E.P T f p
 |.indexAddr T x i=>(ρ x).bind λp=>(ρ i).bind λn=>b26 E.P own T p n
 |.binOp b T x y _=>(ρ x).bind λs=>(ρ y).bind λt=>match d4u E.P own b T s t with
  |some r=>some r
  |none=>c6y E b T s t
 |.unOp u _ x=>(ρ x).bind λs=>evUn u s
 |.convert S T x=>(ρ x).bind λs=>d6u E.P S T s
 |.extract x i=>(ρ x).bind λs=>b5n s i
 |.build T a=>(a.toList.mapM λ(p:Nat×Operand)=>(ρ p.2).map λs=>(p.1,s)).bind λj=>c59 E.P T j
 |.slice T x l q v=>(ρ x).bind λs=>c48 E.P own T s (PX ρ l) (PX ρ q) (PX ρ v)
 |.makeFunc (.func f) first d=>if first.isEmpty then(d.toList.mapM ρ).map λg=>(True,.clo f g)else none
 |.call c=>d79 E own ρ c
 |.index T x i=>(ρ x).bind λs=>(ρ i).bind λt=>c47 E.P T s t
 |.lookup T m i w=>(ρ m).bind λs=>(ρ i).bind λt=>b69 E own T s t w
 |_=>none
section
variable{E:Env}{w:World}{μ:Mu}{B0:Nat}{X A:Nat->Prop}{own ownN:List Blk}{a:Act}{ρ:Operand->Option SV}
theorem Tw(b:∀(x:Operand) (s:SV),ρ x=some s->D w (held A μ) μ s (a.eval x)){xs:List Operand}{c:List SV}(h:xs.mapM ρ=some c):
 DL w (held A μ) μ c (xs.map a.eval):=by
 obtain⟨h1,g⟩:=OI h;refine⟨En,λi s v hs d=> ?_⟩;simp only[Ih]at d;obtain⟨x,hx,rfl⟩:=d;obtain⟨y,f,e⟩:=g i x hx;rw[hs]at f;cases f;exact b x s e
theorem b9m(q:Own B0 X A w μ ownN)(t:∀(k:Nat) (bl:Blk),own[k]?=some bl->ownN[k]?=some bl){b:Builtin}{ts:List TypeId}{ty:TypeId}{y:List SV}{vs:List Value}{s:SV}{f:Prop}{cs:Array Bool}
 (c:DL w (held A μ) μ y vs) (d:b65 E.P own b ts y=some (f,s)):∃r,(builtin b ts.toArray ty cs vs.toArray).run E.P w=.ok (.value r) w/\D w (held A μ) μ s r:=by
 unfold b65 at d;split at d
 .rename_i T x;split at d
  .rename_i e g;have i:=QT g;simp only[Ic]at d;obtain⟨n,j,rfl,rfl⟩:=d;match vs,c with
   | [v],c=>
     obtain⟨z,m,rfl,_,_⟩:=c3h q t (c.2 0 x v rfl rfl) j;refine⟨_,?_,.int⟩;simp[builtin,Builtin.len_,K5 i,goInt]
   | [],c=>exact absurd c.1 Dx
   |_::_::_,c=>exact absurd c.1 Dx
  .cases d
 .rename_i T x;split at d
  .rename_i e g;have i:=QT g;simp only[Ic]at d;obtain⟨n,j,rfl,rfl⟩:=d;match vs,c with
   | [v],c=>
     obtain⟨z,m,rfl⟩:=c5f q t (c.2 0 x v rfl rfl) j;refine⟨_,?_,.int⟩;simp[builtin,Builtin.cap_,K5 i,goInt]
   | [],c=>exact absurd c.1 Dx
   |_::_::_,c=>exact absurd c.1 Dx
  .cases d
 .rename_i k a B b;cases d;match vs,c with
  | [u,v],c=>
    have l:=c.2 0 _ u rfl rfl;have o:=c.2 1 _ v rfl rfl;cases l;cases o;refine⟨_,?_,.int⟩;simp[builtin,d9e]
  | [],c=>exact absurd c.1 Dx
  | [_],c=>exact absurd c.1 Dx
  |_::_::_::_,c=>exact absurd c.1 Dx
 .rename_i k a B b;cases d;match vs,c with
  | [u,v],c=>
    have l:=c.2 0 _ u rfl rfl;have o:=c.2 1 _ v rfl rfl;cases l;cases o;refine⟨_,?_,.int⟩;simp[builtin,f24]
  | [],c=>exact absurd c.1 Dx
  | [_],c=>exact absurd c.1 Dx
  |_::_::_::_,c=>exact absurd c.1 Dx
 .cases d
theorem c4h{P:Program}{H:Nat->Prop}{T:TypeId}{x i s:SV}{v u:Value}{c:Prop}(hx:D w H μ x v)(hi:D w H μ i u)(b:c47 P T x i=some (c,s))(o:c):∃r,(Instr.index T v u).run P w=.ok r w/\D w H μ s r:=by
 unfold c47 at b;split at b;rotate_left
 .cases b
 rename_i k n;cases hi;split at b
 .rename_i len e f;split at b;rotate_left
  .cases b
  rename_i cs;split at b;rotate_left
  .cases b
  rename_i sz q;split at b;rotate_left
  .cases b
  rename_i A;obtain⟨B,hl⟩:=A;simp only[Ic]at b;obtain⟨C,hs,rfl,rfl⟩:=b;simp only[CX,J7]at q;obtain⟨a,t,rfl⟩:=q;cases hx with
  |agg j tn E=>
   have mz:n.toNat*a.size+a.size<=len*a.size:=by rw[<-Mg];exact Ka _ B
   obtain⟨d,y,h⟩:=b06 (w:=w) (H:=H) (μ:=μ) (us:=(j.drop (n.toNat*a.size)).take a.size) hs E5 (λi s u hs f=>E _ _ _ (HE hs).2 (HE f).2);have g:HR d=false->a.size=1:=λz=>by
    rcases h with h|⟨_,u,l,_⟩
    .rw[h.1]at z;cases z
    .have:=Mc List.length l;simp at this;omega
   have mt:=UB (w:=w) y t j (n.toNat*a.size) Dv g;have F:D w H μ C (HI P e ((j.drop (n.toNat*a.size)).take a.size)):=by
    unfold HI Io;rw[y];rcases h with⟨m,h⟩|⟨m,u,l,h⟩
    .simp only[Iq,m,Ke];exact h
    .simp only[Iq,m,Ik,l,List.getD_cons_zero];exact h
   refine⟨_,?_,F⟩;have G:n<(len:Int):=Dv;have I:(0<=n/\n<(len:Int)):=⟨o,G⟩
   simp only[Instr.index,Ie,asIntOf,K5 f];rw[Iz I];simp only[It,HY (w:=w) t,mt]
 .rename_i f;split at b;rotate_left
  .cases b
  rename_i s;simp only[Id]at b;obtain⟨rfl,rfl⟩:=b;cases hx;obtain⟨J,g⟩:=o;refine⟨_,?_,.int⟩;have K:s[n.toNat]?=some s[n.toNat]:=getElem?_pos s n.toNat g;simp only[Instr.index,Ie,asIntOf,K5 f];rw[Iz J,K,Sem.run_pure];congr 1;have:s[n.toNat]=s.data.toList.getD n.toNat 0:=by
   have L:n.toNat<s.data.toList.length:=by rw[L8];exact g
   rw[Ix,Iy L];rfl
  rw[this]
 .cases b
theorem c44(j:Own B0 X A w μ ownN)(l:∀(k:Nat) (bl:Blk),own[k]?=some bl->ownN[k]?=some bl){s:SV}{v:Value}(a:D w (held A μ) μ s v){K:KT}{f:Bool}{has:List Int->Bool}{val:List Int->List SV}(h:YM own s=some (K,f,has,val)):
 ∃r g,v=.map (some r)/\MapAt w r K f has g/\(∀q,has q=true->(g q).length=(val q).length/\(val q).all SV.pure=true)/\∀(q:List Int) (i:Nat) (s:SV) (v:Value),has q=true->(val q)[i]?=some s->(g q)[i]?=some v->D w (held A μ) μ s v:=by
 cases a with
 |mp r g hb b c a=>
  simp only[YM,Id]at h;obtain⟨rfl,rfl,rfl,rfl⟩:=h;exact⟨r,g,rfl,b,c,a⟩
 |omp d=>
  simp only[YM]at h;split at h
  .rename_i m;simp only[Id]at h;obtain⟨rfl,rfl,rfl,rfl⟩:=h;obtain⟨bl,e,n⟩:=j.blk _ _ d;rw[l _ _ m]at e;cases e;obtain⟨r,g,o,b,c,a⟩:=n;cases o;exact⟨r,g,rfl,b,c,a⟩
  .cases h
 |_=>simp[YM]at h
theorem b42(S:EnvOK E)(U:Own B0 X A w μ ownN)(V:∀(k:Nat) (bl:Blk),own[k]?=some bl->ownN[k]?=some bl){T:TypeId}{m i s:SV}{ok:Bool}{v u:Value}{f:Prop}(W:D w (held A μ) μ m v)(hi:D w (held A μ) μ i u)
 (b:b46 E own T m i ok=some (f,s)) (Y:f):∃r,(Instr.lookup T v u ok).run E.P w=.ok r w/\D w (held A μ) μ s r:=by
 unfold b46 at b;split at b;rotate_left
 .cases b
 rename_i ky j J;simp only[J8]at b;obtain⟨⟨K,c,a,val⟩,Z,b⟩:=b;simp only at b;split at b;rotate_left
 .cases b
 rename_i hc;obtain⟨wa,o,L⟩:=hc;simp only[J8,Ic]at b;obtain⟨q,hq,s0,M,rfl,rfl⟩:=b;obtain⟨r,g,rfl,qz,hl,hd⟩:=c44 U V W Z;obtain⟨ky',elem',N,gz⟩:=S.kt T K wa;rw[J]at N;cases N;obtain⟨rfl,n9⟩:=b1n hq hi;have fk:∃x,(a q=true->x=IC c (g q))/\(a q=false->(zeroValue j).run E.P w=.ok x w)/\D w (held A μ) μ s0 x:=by
  cases l:a q with
  |true=>
   refine⟨IC c (g q),λ_=>rfl,λh=>E8,?_⟩;obtain⟨d,e,h|h⟩:=b06 (w:=w) (H:=held A μ) (μ:=μ) (us:=g q) M (hl q l).1 (λi s u hs e=>hd q i s u l hs e)
   .have:c=true:=by simpa[Io,e,h.1]using o.symm
    rw[this];exact h.2
   .obtain⟨C,u,t,F⟩:=h;have:c=false:=by simpa[Io,e,C]using o.symm
    rw[this,t];exact F
  |false=>
   obtain⟨inf,y,G,I,hze,O⟩:=SI (w:=w) (H:=held A μ) (μ:=μ) (Y l);refine⟨y,λh=>E8,λ_=>VH G I,?_⟩;obtain⟨d,e,h|h⟩:=b06 (w:=w) (H:=held A μ) (μ:=μ) (us:=y.cells.toList) M O.1 O.2
   .have h2:=h.2;have:c=true:=by simpa[Io,e,h.1]using o.symm
    subst this;cases y<;>simp[zAgg,G,I]at L
    simpa[Value.cells]using h2
   .obtain⟨C,u,t,F⟩:=h;have:c=false:=by simpa[Io,e,C]using o.symm
    subst this;cases y<;>simp[zAgg,G,I]at L
    all_goals
     simp only[Value.cells,Ir]at t;subst t;exact F
 obtain⟨x,su,qh,Q⟩:=fk;have R:=b8j (w:=w) (ok:=ok) J gz qz n9 (z:=x) qh;have n:(if a q then IC c (g q)else x)=x:=by
  cases l:a q with
  |true=>simp[su l]
  |false=>simp
 rw[n]at R;refine⟨_,R,?_⟩;cases ok with
 |true=>
  refine .tup [x,.bool (a q)] rfl (λi s v hs B=> ?_);match i with
  |0=>simp at hs B;subst hs B;exact Q
  |1=>simp at hs B;subst hs B;exact .bool
  |i+2=>simp at hs
 |false=>exact Q
theorem c13(o:EnvOK E)(t:Own B0 X A w μ ownN)(x:∀(k:Nat) (bl:Blk),own[k]?=some bl->ownN[k]?=some bl){T:TypeId}{m i s:SV}{ok:Bool}{v u:Value}{c:Prop}(y:D w (held A μ) μ m v)(hi:D w (held A μ) μ i u)
 (a:b69 E own T m i ok=some (c,s)) (F:c):∃r,(Instr.lookup T v u ok).run E.P w=.ok r w/\D w (held A μ) μ s r:=by
 unfold b69 at a;split at a;rotate_left
 .exact b42 o t x y hi a F
 rename_i j;split at a;rotate_left
 .exact b42 o t x y hi a F
 rename_i K k b BV I;split at a;rotate_left
 .cases a
 rename_i ky d G;split at a;rotate_left
 .cases a
 rename_i J;obtain⟨L,qy,B⟩:=J;simp only[Ic]at a;obtain⟨q,M,rfl,rfl⟩:=a;obtain⟨ky',elem',H,N⟩:=o.kt T K L;rw[G]at H;cases H;obtain⟨rfl,O⟩:=b1n M hi;cases y with
 |omp C=>
 obtain⟨bl,e,Q⟩:=t.blk _ _ C;rw[x _ _ I]at e;cases e;obtain⟨_,r,g,R,S,U⟩:=Q;cases R;have l:(E.P.info? d).bind (·.zero)=some (.pointer none):=by
  unfold zPtr at B;split at B
  .assumption
  .cases B
 simp only[J8]at l;obtain⟨inf,V,l⟩:=l;have W:=b8j (w:=w) (ok:=ok) G N S O (z:=.pointer none) (λ_=>VH V l);refine⟨_,W,?_⟩;have f:D w (held A μ) μ (.fp (b q) k (BV q) 0) (if b q then IC false (g q)else .pointer none):=by
  cases hh:b q with
  |true=>
   obtain⟨p,e,h⟩:=U q hh;simp only[Ke,IC,e,Ik,List.getD_cons_zero];exact h
  |false=>
   simp only[Ik];exact .fp rfl
 cases ok with
 |true=>
  refine .tup [_,.bool (b q)] rfl (λi s v hs n=> ?_);match i with
  |0=>simp at hs n;subst hs n;exact f
  |1=>simp at hs n;subst hs n;exact .bool
  |i+2=>simp at hs
 |false=>exact f
theorem d3y(V:EnvOK E)(I:Own B0 X A w μ ownN)(J:∀(k:Nat) (bl:Blk),own[k]?=some bl->ownN[k]?=some bl)(g:∀(x:Operand) (s:SV),ρ x=some s->D w (held A μ) μ s (a.eval x)){o:Oper}{s:SV}{z:Prop}
 (d:d5r E own ρ o.op=some (z,s)) (B:z):∃r,(execOp a.eval o).run E.P w=.ok (.value r) w/\D w (held A μ) μ s r:=by
 obtain⟨dst,op,K,pos,after,guard⟩:=o;simp only at d;unfold d5r at d;split at d
 .simp only[Ic]at d;obtain⟨t,L,rfl,rfl⟩:=d;exact⟨_,by simp[execOp],g _ _ L⟩
 .simp only[Ic]at d;obtain⟨t,L,rfl,rfl⟩:=d;exact⟨_,by simp[execOp],g _ _ L⟩
 .rename_i x;split at d<;>try cases d
  all_goals
   have R:=g _ _ Dz;refine⟨_,?_,R⟩;generalize hv:a.eval x=v at R;cases R;simp[execOp,hv]
 .simp only[J8]at d;obtain⟨p,hx,d⟩:=d;obtain⟨u,h1,h2⟩:=b3n I J (g _ _ hx) d B;exact C4
 .simp only[J8]at d;obtain⟨p,hx,d⟩:=d;obtain⟨u,h1,h2⟩:=b74 (w:=w) (g _ _ hx) d;exact C4
 .simp only[J8]at d;obtain⟨p,hx,d⟩:=d;obtain⟨u,h1,h2⟩:=c51 (w:=w) (g _ _ hx) d;exact C4
 .simp only[J8]at d;obtain⟨p,hx,n,M,d⟩:=d;obtain⟨u,h1,h2⟩:=b5j I J (g _ _ hx) (g _ _ M) d B;exact C4
 .rename_i b T x y t;simp only[J8]at d;obtain⟨W,hx,Y,C,d⟩:=d;have d:d4u E.P own b T W Y=some (z,s)\/c6y E b T W Y=some (z,s):=by
   split at d
   .rename_i r G;cases d;exact .inl G
   .exact .inr d
  obtain⟨u,h1,h2⟩:∃r,(do eqGuard b T x y (a.eval x) (a.eval y);binOp b T (a.eval x) (a.eval y)).run E.P w=.ok r w/\D w (held A μ) μ s r:=by
   rcases d with d|d;rotate_left
   .exact d0n V (xo:=x) (yo:=y) (g _ _ hx) (g _ _ C) d B
   .have Z:=g _ _ hx;have d2:=g _ _ C;generalize a.eval x=v1 at Z⊢;generalize a.eval y=v2 at d2⊢;unfold d4u at d;split at d;rotate_left
    .cases d
    split at d;rotate_left
    .cases d
    rename_i hk hu;cases d2;cases Z with
    | @osl k n0 m0 S h=>
    obtain⟨bl,e,ba⟩:=I.blk _ _ h;rw[J _ _ hk]at e;cases e;obtain⟨a',m',O,U,_,_,_,G⟩:=ba;simp only[Value.slice.injEq]at O;obtain⟨ea,en,em⟩:=O;rw[<-ea]at G;rw[<-em]at U G;have hz:S=none->∀{q:Nat},q<=m0->q=0:=λe q hq=>by
     rcases G with G|⟨b,o,vs,c7,e2,_⟩
     .omega
     .rw[e]at e2;cases e2
    split at d
    .cases d;exact⟨_,b29 hu x y _ _ _,.ub (λe=>hz (by cases S<;>first|rfl|cases e) U) (λ_=>J5)⟩
    .cases d;exact⟨_,b2e hu x y _ _ _,.ub (λ_=>J5) (λe=>hz (by cases S<;>first|rfl|cases e) U)⟩
    .cases d
  refine⟨u,?_,h2⟩;simp only[execOp];rw[Kt,h1];simp
 .simp only[J8]at d;obtain⟨p,hx,d⟩:=d;obtain⟨u,h1,h2⟩:=d7u (P:=E.P) (g _ _ hx) d B;exact C4
 .simp only[J8]at d;obtain⟨p,hx,d⟩:=d;obtain⟨u,h1,h2⟩:=d0i (g _ _ hx) d B;exact C4
 .simp only[J8]at d;obtain⟨p,hx,d⟩:=d;obtain⟨u,h1,h2⟩:=b9h (P:=E.P) (g _ _ hx) d;exact C4
 .rename_i T l;simp only[J8]at d;obtain⟨ps,Z1,d⟩:=d;obtain⟨l1,l2⟩:=OI Z1;obtain⟨u,h1,h2⟩:=c57 (w:=w) (H:=held A μ) (μ:=μ) (ps:=l.toList.map λp=>(p.1,a.eval p.2)) d (by simp[l1]) (λi j s hs=>by
   have b6:i<l.toList.length:=G9;obtain⟨y,C,e⟩:=l2 i _ (Iy b6);rw[hs]at C;cases C;simp only[Ic]at e;obtain⟨t,L,O,rfl⟩:=e;refine⟨a.eval (l.toList[i]).2,?_,g _ _ L⟩;rw[Jr,Iy b6,<-O];rfl)
  refine⟨u,?_,h2⟩;have N:(l.map λ(p:Nat×Operand)=>(p.1,a.eval p.2))=(l.toList.map λp=>(p.1,a.eval p.2)).toArray:=by apply Array.ext';simp
  simp only[execOp,N];rw[Kt,h1];simp
 .rename_i T x lo hi mx;simp only[J8]at d;obtain⟨p,hx,d⟩:=d;have F:∀o:Option Operand,DO w (held A μ) μ (PX ρ o) (o.map a.eval):=by
   intro o;cases o with
   |none=>simp[DO,PX]
   |some y=>
    simp only[PX,Kb];cases C:ρ y with
    |none=>simp[DO]
    |some t=>simpa[DO]using g _ _ C
  obtain⟨u,h1,h2⟩:=c49 (w:=w) (H:=held A μ) (μ:=μ) (g _ _ hx) (F lo) (F hi) (F mx) d B;exact C4
 .rename_i f first m
  split at d;rotate_left
  .cases d
  rename_i hf;simp only[Ic]at d;obtain⟨cs,ga,rfl,rfl⟩:=d;have Q:=Tw (a:=a) g ga;have wb:first= #[]:=by simpa using hf
  refine⟨.func (.func f) #[] (m.toList.map a.eval).toArray,?_,.clo _ Q.1 Q.2⟩;have N:m.map a.eval=(m.toList.map a.eval).toArray:=F4;simp only[execOp,Instr.makeFunc,wb,N];simp
 .rename_i c;unfold d79 at d;split at d
  .rename_i b hb;simp only[J8]at d;obtain⟨xs,ku,d⟩:=d;have Q:=Tw (a:=a) g ku;obtain⟨u,h1,h2⟩:=b9m (ts:=c.argTypes.toList) (ty:=K) (cs:=c.args.map fun|.const _=>true|_=>false) I J Q d;refine⟨u,?_,h2⟩;have N:c.args.map a.eval=(c.args.toList.map a.eval).toArray:=F4;simp only[execOp,resolve,hb,Ie,invoke,N];rw[show c.argTypes.toList.toArray=c.argTypes from Dx]at h1;exact h1
  .cases d
 .simp only[J8]at d;obtain⟨p,hx,n,M,d⟩:=d;obtain⟨u,h1,h2⟩:=c4h (w:=w) (g _ _ hx) (g _ _ M) d B;exact C4
 .simp only[J8]at d;obtain⟨p,hx,n,M,d⟩:=d;obtain⟨u,h1,h2⟩:=c13 V I J (g _ _ hx) (g _ _ M) d B;exact C4
 .cases d
end
structure Entry where
 slot:Nat
 guard:Option (Nat×Bool)
 sv:SV
structure St where
 ρ:List Entry
 own:List Blk
def CJ(t:Nat):List Entry->Option Entry
 | []=>none
 |e::r=>if e.slot=t then some e else CJ t r
def CK(E:Env)(ρ:List Entry)(g:Option (Nat×Bool)):Operand->Option SV
 |.tmp t=>match CJ t ρ with
  |some e=>match e.guard with
   |none=>some e.sv
   |some q=>if g=some q then some e.sv else none
  |none=>none
 |.const v=>some (f9f v)
 |.global n=>E.glob n
 |.func f=>some (.clo f [])
def UR(d:Nat)(e:Entry):Entry:=match e.guard with
 |some (g,_)=>if g=d then {e with guard:=none,sv:=.any}else e
 |none=>e
def KO(d:Option Nat)(g:Option (Nat×Bool))(s:SV)(ρ:List Entry):List Entry:=match d with
 |none=>ρ
 |some d=>⟨d,g,s⟩::(if ρ.any (λe=>match e.guard with|some (q,_)=>q==d|none=>false)then ρ.map (UR d)else ρ)
def UN(k:List Nat)(ρ:List Entry):List Entry:=ρ.map λe=>{e with sv:=e.sv.kill2 k}
def CZ(w:World)(H:Nat->Prop)(μ:Mu)(tmps:Array Value)(e:Entry):Prop:=
 match e.guard with
 |none=>D w H μ e.sv (tmps.getD e.slot undef)
 |some (g,b)=>(tmps.getD g undef=.bool b->D w H μ e.sv (tmps.getD e.slot undef))/\(tmps.getD g undef≠.bool b->tmps.getD e.slot undef=undef)
def EP(w:World)(H:Nat->Prop)(μ:Mu)(tmps:Array Value)(ρ:List Entry):Prop:=∀t e,CJ t ρ=some e->CZ w H μ tmps e
structure SD (E:Env) (B0:Nat) (X A:Nat->Prop) (w0:World) (nt:Nat) (st:St) (a:Act) (w:World) (μ:Mu):Prop where
 own:Own B0 X A w μ st.own
 fr:Fr B0 X w0 w
 base:B0<=w.heap.size
 glo:∀g s,E.glob g=some s->s.pure=true/\D w (held A μ) μ s (.pointer (some ⟨g,0,none⟩))
 dfr:a.defers=[]
 size:a.tmps.size=nt
 env:EP w (held A μ) μ a.tmps st.ρ
 fresh:∀k,st.own.length<=k->μ k=none
 anc:∀k x,E.an k=some x->μ k=some x
theorem MY{t:Nat}{ρ:List Entry}{e:Entry}(h:CJ t ρ=some e):e.slot=t:=by
 induction ρ with
 |nil=>simp[CJ]at h
 |cons x r a=>
  simp only[CJ]at h;split at h
  .cases h;assumption
  .exact a h
theorem UU{t:Nat}{f:Entry->Entry}(a:∀e,(f e).slot=e.slot)(ρ:List Entry):CJ t (ρ.map f)=(CJ t ρ).map f:=by
 induction ρ with
 |nil=>rfl
 |cons x r b=>
  simp only[Km,CJ,a];split<;>simp[b]
theorem c42(d:Nat)(e:Entry):(UR d e).slot=e.slot:=by unfold UR;split<;>(try split)<;>rfl
section
variable{w w':World}{H H':Nat->Prop}{μ μ':Mu}{tmps:Array Value}{ρ:List Entry}
theorem EP.keep(a:Keeps w w' H H' μ μ')(h:EP w H μ tmps ρ):EP w' H' μ' tmps ρ:=by
 intro t e b;have:=h t e b;unfold CZ at this⊢;split at this
 .exact this.keep a
 .exact⟨λc=>(this.1 c).keep a,this.2⟩
theorem EP.change{k:List Nat}(a:Keeps' k w w' H H' μ μ')(h:EP w H μ tmps ρ):EP w' H' μ' tmps (UN k ρ):=by
 intro t e b;rw[UN,UU (f:=λ(e:Entry)=>{e with sv:=e.sv.kill2 k}) (λ_=>rfl),J7]at b;obtain⟨c,d,rfl⟩:=b;have:=h t c d;unfold CZ at this⊢;simp only;split at this
 .exact b3t a this
 .exact⟨λg=>b3t a (this.1 g),this.2⟩
theorem NJ{tmps:Array Value}{d t:Nat}{v:Value}(a:d<tmps.size):(tmps.setIfInBounds d v).getD t undef=if t=d then v else tmps.getD t undef:=by
 by_cases e:t=d
 .subst e;simp[a]
 .simp[e,Lv (Ne.symm e)]
theorem EP.put(h:EP w H μ tmps ρ){d:Nat}(j:d<tmps.size){g:Option (Nat×Bool)}{s:SV}{v:Value}(_:∀q b,g=some (q,b)->q≠d)
 (m:CZ w H μ (tmps.setIfInBounds d v) ⟨d,g,s⟩):EP w H μ (tmps.setIfInBounds d v) (KO (some d) g s ρ):=by
 have c:∀t e,t≠d->CJ t ρ=some e->CZ w H μ (tmps.setIfInBounds d v) (UR d e):=by
  intro t e f a;have hs:=MY a;have:=h t e a;unfold UR;split
  .rename_i q b i;split
   .unfold CZ;exact .any
   .rename_i k;unfold CZ at this⊢;rw[i]at this⊢;simp only at this⊢;rw[NJ j,NJ j,J3 k,J3 (by rw[hs];exact f)];exact this
  .rename_i i;unfold CZ at this⊢;rw[i]at this⊢;simp only at this⊢;rw[NJ j,J3 (by rw[hs];exact f)];exact this
 intro t e a;simp only[KO,CJ]at a;split at a
 .cases a;exact m
 .rename_i f;split at a
  .rw[UU (c42 d),J7]at a;obtain⟨n,o,rfl⟩:=a;exact c t n (Ne.symm f) o
  .rename_i l;have:=c t e (Ne.symm f) a;have p:UR d e=e:=by
    unfold UR;split
    .rename_i q b i;split
     .rename_i k;exfalso;apply l;rw[Jj];have u:e∈ρ:=by
       clear l c this h;induction ρ with
       |nil=>simp[CJ]at a
       |cons x r y=>
        simp only[CJ]at a;split at a
        .cases a;simp
        .exact Jz _ (y a)
      exact⟨e,u,by rw[i];simpa using k⟩
     .rfl
    .rfl
   rwa[p]at this
theorem Qv{E:Env}{a:Act}{g:Option (Nat×Bool)}(k:∀n s,E.glob n=some s->D w H μ s (.pointer (some ⟨n,0,none⟩)))(l:EP w H μ a.tmps ρ)
 (m:∀q b,g=some (q,b)->a.tmps.getD q undef=.bool b):∀(x:Operand) (s:SV),CK E ρ g x=some s->D w H μ s (a.eval x):=by
 intro x s h;cases x with
 |tmp t=>
  simp only[CK]at h;split at h
  .rename_i e j;have hs:=MY j;have c:=l t e j;unfold CZ at c;split at h
   .rename_i o;cases h;rw[o]at c;simp only at c;rw[hs]at c;exact c
   .rename_i q r;split at h
    .rename_i d;cases h;rw[r]at c;obtain⟨u,y⟩:=q;simp only at c;have:=c.1 (m u y d);rw[hs]at this;exact this
    .cases h
  .cases h
 |const v=>simp only[CK,Ju]at h;subst h;exact f76 v
 |global n=>exact k n s h
 |func f=>simp only[CK,Ju]at h;subst h;exact .clo [] rfl (λi s v h _=>E6)
end
def SV.ro00(own:List Blk):SV->SV
 |.osl k=>match own[k]? with
  |some (.row _ b n f c)=>.sl b n f c
  |_=>.any
 |.omp k=>match own[k]? with
  |some (.map K d a val)=>.mp K d a val
  |_=>.any
 |.own _ _|.oel _ _ _ _|.agg _|.tup _|.fp _ _ _ _=>.any
 |.clo f e=>if e.isEmpty then .clo f []else .any
 |s=>s
def SV.ro0(own:List Blk):SV->SV
 |.own k a=>match own[k]? with
  |some (.cells _ b)=>.rel b.length 1 (λ_=>b.map (SV.ro00 own)) 0 a
  |_=>.any
 |s=>s.ro00 own
def SV.ro1(own:List Blk):SV->Option SV
 |.osl k=>match own[k]? with
  |some (.row _ e n f c)=>some (.sl e n f c)
  |_=>none
 |.omp k=>match own[k]? with
  |some (.map K g b val)=>some (.mp K g b val)
  |_=>none
 |.own k d=>match own[k]? with
  |some (.cells _ a)=>some (.rel a.length 1 (λ_=>a.map (SV.ro0 own)) 0 d)
  |_=>none
 |.oel _ _ _ _|.agg _|.tup _|.fp _ _ _ _|.any=>none
 |.clo f a=>if a.isEmpty then some (.clo f [])else none
 |s=>some s
def SV.ro(own:List Blk):SV->Option SV
 |.clo f a=>(a.mapM (SV.ro1 own)).map (.clo f)
 |s=>s.ro1 own
def SV.roA(own:List Blk):SV->Option SV
 |.agg a=>(a.mapM (SV.ro own)).map .agg
 |s=>s.ro own
def SV.isOsl0:SV->Bool
 |.osl _|.omp _|.own _ _=>true
 |_=>false
def SV.isOsl:SV->Bool
 |.clo _ a=>a.any SV.isOsl0
 |s=>s.isOsl0
def SV.hasOsl:SV->Bool
 |.agg a=>a.any SV.isOsl
 |s=>s.isOsl
def SV.flat0:SV->Bool
 |.int _ _|.bool _|.con _=>true
 |.clo _ a=>a.isEmpty
 |_=>false
def SV.flat1:SV->Bool
 |.agg a=>a.all SV.flat0
 |s=>s.flat0
def SV.flat2:SV->Bool
 |.tup a=>a.all SV.flat1
 |s=>s.flat1
section
variable{w:World}{H H':Nat->Prop}{μ μ':Mu}
theorem XH{s:SV}{v:Value}{w':World}(a:s.flat0=true)(h:D w H μ s v):D w' H' μ' s v:=by
 cases h<;>simp[SV.flat0]at a
 .exact .int
 .exact .bool
 .exact .con
 .rename_i vs hl hd;subst a;exact Cc
theorem d2g{s:SV}{v:Value}{w':World}(a:s.flat1=true)(h:D w H μ s v):D w' H' μ' s v:=by
 unfold SV.flat1 at a;split at a
 .cases h with
  |agg b c d=>exact .agg b c (λi s v hs e=>XH (Ja.1 a s (J6 hs)) (d i s v hs e))
 .exact XH a h
theorem f6w{s:SV}{v:Value}{w':World}(a:s.flat2=true)(h:D w H μ s v):D w' H' μ' s v:=by
 unfold SV.flat2 at a;split at a
 .cases h with
  |tup b c d=>exact .tup b c (λi s v hs e=>d2g (Ja.1 a s (J6 hs)) (d i s v hs e))
 .exact d2g a h
theorem GS(hH:∀b,H' b->H b){s:SV}{v:Value}(h:D w H μ s v):s.pure=true->D w H' μ' s v:=by
 induction h with
 |int=>exact λ_=>.int
 |bool=>exact λ_=>.bool
 |con=>exact λ_=>.con
 |own h=>intro hp;simp[SV.pure,SV.pure0]at hp
 |osl h=>intro hp;simp[SV.pure,SV.pure0]at hp
 |oel h=>intro hp;simp[SV.pure,SV.pure0]at hp
 |omp h=>intro hp;simp[SV.pure,SV.pure0]at hp
 |fp h=>intro hp;simp[SV.pure,SV.pure0]at hp
 |mp r g hb hm hl c ih=>
  exact D6
 |sl a b o m g hm hx d b7 hl c ih=>
  exact λ_=>.sl a b o m g hm hx d (λf=>by obtain⟨e,hb,k⟩:=b7 f;exact⟨e,λhh=>hb (hH _ hh),k⟩) hl (λi j s hi hs=>ih i j s hi hs (Ja.1 (hl i hi).2 s (J6 hs)))
 |rel b o g hi hb b7 hl c ih=>
  exact D7
 |agg vs hl c ih=>intro hp;simp[SV.pure,SV.pure0]at hp
 |tup vs hl c ih=>intro hp;simp[SV.pure,SV.pure0]at hp
 |clo vs hl c ih=>
  exact Cm
 |ub l n=>exact λ_=>.ub l n
 |any=>exact λ_=>.any
theorem HU(hH:∀b,H' b->H b){s:SV}{v:Value}(h:D w H μ s v):s.pure=true->D w H' μ' s v:=by
 induction h with
 |int=>exact λ_=>.int
 |bool=>exact λ_=>.bool
 |con=>exact λ_=>.con
 |own h=>intro hp;simp[SV.pure,SV.pure0]at hp
 |osl h=>intro hp;simp[SV.pure,SV.pure0]at hp
 |oel h=>intro hp;simp[SV.pure,SV.pure0]at hp
 |omp h=>intro hp;simp[SV.pure,SV.pure0]at hp
 |fp h=>intro hp;simp[SV.pure,SV.pure0]at hp
 |mp r g hb hm hl c ih=>
  exact D6
 |sl a b o m g hm hx d b7 hl c ih=>
  exact λ_=>.sl a b o m g hm hx d (λf=>by obtain⟨e,hb,k⟩:=b7 f;exact⟨e,λhh=>hb (hH _ hh),k⟩) hl (λi j s hi hs=>ih i j s hi hs (Ja.1 (hl i hi).2 s (J6 hs)))
 |rel b o g hi hb b7 hl c ih=>
  exact D7
 |agg vs hl c ih=>intro hp;simp[SV.pure,SV.pure0]at hp
 |tup vs hl c ih=>intro hp;simp[SV.pure,SV.pure0]at hp
 |clo vs hl c ih=>
  exact Cm
 |ub l n=>exact λ_=>.ub l n
 |any=>exact λ_=>.any
end
def BQ:Mu:=λ_=>none
def c8f(P:Program)(glob:Nat->Option SV)(f:FuncId)(c:List SV->Option (Prop×SV)):Prop:=
 (∃fn,P.funcs[f]?=some fn/\(fn.name== "runtime.NumGoroutine")=false/\fn.body.isNone=false)/\
 ∀(A:Nat->Prop) (w:World) (args:List SV) (vals:List Value) (pre:Prop) (s:SV),(∀b,A b->b<w.heap.size)->(∀g t,glob g=some t->t.pure=true/\D w A BQ t (.pointer (some ⟨g,0,none⟩)))->
  DL w A BQ args vals->c args=some (pre,s)->pre->
  Calls P f vals.toArray w λe w'=>∃v,e=.returned v/\D w' A BQ s v/\Fr w.heap.size (λ_=>False) w w'
section
variable{E:Env}{w:World}{μ:Mu}{B0:Nat}{X A:Nat->Prop}{own ownN:List Blk}
theorem c6g(g:Own B0 X A w μ ownN)(u:∀(k:Nat) (bl:Blk),own[k]?=some bl->ownN[k]?=some bl){A':Nat->Prop}(v:∀b,A' b->held A μ b)(x:∀b,A' b->A b){k n m:Nat}{a:Option Addr}(h:μ k=some (.slice a n m)){T:TypeId}{sz l:Nat}{f:Nat->List SV}{c:Option Nat}
 (y:own[k]?=some (.row T sz l f c)):D w A' BQ (.sl sz l f c) (.slice a n m):=by
 obtain⟨bl,e,z⟩:=g.blk _ _ h;rw[u _ _ y]at e;cases e;obtain⟨a',m',B,hn,hm,hc,hl,C⟩:=z;cases B;rcases C with rfl|⟨b,o,q,E,rfl,r,ho,h1,F⟩
 .exact Cp
 .have G:¬A' b:=λH=>(g.rng _ _ b h (KD E)).2.1 (x b H);have t:∀i j,i<n->j<sz->o+i*sz+j<q.length:=λi j hi d=>by
   have:=MG hi d;have:n*sz<=m*sz:=Ka _ hn;omega
  refine .sl _ b o m (λi j=>q.getD (o+i*sz+j) undef) hn hm hc (λ_=>⟨rfl,G,PY r,λi j hi d=> ?_⟩) hl (λi j s hi hs=> ?_)
  .have:=t i j hi d;rw[SX r,Iy this];simp only[In,Iy this];exact Cq
  .have d:j<sz:=G5;have:=t i j hi d;simp only[In,Iy this];exact GS v (F i j s _ hi hs (Iy this)) (Ja.1 (hl i hi).2 s (J6 hs))
theorem c76(a:Own B0 X A w μ ownN)(l:∀(k:Nat) (bl:Blk),own[k]?=some bl->ownN[k]?=some bl){A':Nat->Prop}(m:∀b,A' b->held A μ b)(n:∀b,A' b->A b){k:Nat}{r:Option Nat}(h:μ k=some (.map r)){K:KT}{c:Bool}{has:List Int->Bool}{val:List Int->List SV}
 (o:own[k]?=some (.map K c has val)):D w A' BQ (.mp K c has val) (.map r):=by
 obtain⟨bl,e,p⟩:=a.blk _ _ h;rw[l _ _ o]at e;cases e;obtain⟨d,g,t,u,f,x⟩:=p;cases t;exact .mp d g (λy=>(a.rng _ _ d h (.inl rfl)).2.1 (n _ y)) u f (λq i s v j hs z=>GS m (x q i s v j hs z) (Ja.1 (f q j).2 s (J6 hs)))
theorem b7p(l:Own B0 X A w μ ownN)(n:∀(k:Nat) (bl:Blk),own[k]?=some bl->ownN[k]?=some bl){A':Nat->Prop}(f:∀b,A' b->held A μ b)(q:∀b,A' b->A b){s:SV}{v:Value}(d:D w (held A μ) μ s v):D w A' BQ (s.ro00 own) v:=by
 have c:s.pure=true->s.ro00 own=s->D w A' BQ (s.ro00 own) v:=λu e=>by rw[e];exact GS f d u
 cases d with
 |osl h=>
  simp only[SV.ro00];split
  .rename_i j;exact c6g l n f q h j
  .exact .any
 |fp h=>exact .any
 |omp h=>
  simp only[SV.ro00];split
  .rename_i j;exact c76 l n f q h j
  .exact .any
 |own h=>exact .any
 |oel h=>exact .any
 |agg vs hl d=>exact .any
 |tup vs hl d=>exact .any
 |clo vs hl d=>
  simp only[SV.ro00];split
  .rename_i t;have x:=List.isEmpty_iff.1 t;subst x;exact Cc
  .exact .any
 |int=>exact c rfl rfl
 |bool=>exact c rfl rfl
 |con=>exact c rfl rfl
 |sl a b o m g y hx t z hl d=>exact c rfl rfl
 |rel b o g hi B z hl d=>exact c rfl rfl
 |mp r g B y hl d=>exact c rfl rfl
 |ub C E=>exact .ub C E
 |any=>exact .any
theorem c19(own:List Blk)(s:SV):(s.ro00 own).pure=true:=by
 cases s with
 |osl k=>simp only[SV.ro00];split<;>rfl
 |omp k=>simp only[SV.ro00];split<;>rfl
 |clo f cs=>simp only[SV.ro00];split<;>rfl
 |_=>rfl
theorem d8q(own:List Blk)(s:SV):(s.ro0 own).pure=true:=by
 unfold SV.ro0;split
 .split<;>rfl
 .exact c19 own s
theorem b7h(l:Own B0 X A w μ ownN)(q:∀(k:Nat) (bl:Blk),own[k]?=some bl->ownN[k]?=some bl){A':Nat->Prop}(r:∀b,A' b->A b){k off b:Nat}(h:μ k=some (.pointer (some ⟨b,0,none⟩))){T:TypeId}{cs:List SV}(t:own[k]?=some (.cells T cs))
 {g:SV->SV} (u:∀s,(g s).pure=true) (y:∀s v,D w (held A μ) μ s v->D w A' BQ (g s) v):D w A' BQ (.rel cs.length 1 (λ_=>cs.map g) 0 off) (.pointer (some ⟨b,off,none⟩)):=by
 obtain⟨bl,e,z⟩:=l.blk _ _ h;rw[q _ _ t]at e;cases e;obtain⟨b',c,B,m,C,E,F⟩:=z;cases B;have:=D.rel (w:=w) (H:=A') (μ:=BQ) (sz:=cs.length) (n:=1) (i:=0) (off:=off) (f:=λ_=>cs.map g) b 0 (λ_ j=>c.getD j undef) Dv (λG=>(l.rng _ _ b h (.inl rfl)).2.1 (r _ G)) ⟨PY m,λi j I hj=> ?_⟩
  (λi _=>⟨Dx,by simp only[List.all_map,Ja];intro x _;exact u x⟩) (λi j s I hs=> ?_)
 .simpa using this
 .have d:i=0:=Dv;subst d;have a:j<c.length:=Dv;have J:(0+0*cs.length+j)=j:=Dv;rw[J,SX m,Iy a];simp only[In,Iy a];exact⟨J5,E _ (K2 a)⟩
 .simp only[Ih]at hs;obtain⟨K,o,rfl⟩:=hs;have a:j<c.length:=by rw[C];exact(J4.1 o).1
  simp only[In,Iy a];exact y _ _ (F j K _ o (Iy a))
theorem d19(c:Own B0 X A w μ ownN)(d:∀(k:Nat) (bl:Blk),own[k]?=some bl->ownN[k]?=some bl){A':Nat->Prop}(f:∀b,A' b->held A μ b)(e:∀b,A' b->A b){s:SV}{v:Value}(a:D w (held A μ) μ s v):D w A' BQ (s.ro0 own) v:=by
 unfold SV.ro0;split
 .rename_i k off;split
  .rename_i T cs g;cases a with
   |own h=>exact b7h c d e h g (c19 own) (λs v a=>b7p c d f e a)
  .exact .any
 .exact b7p c d f e a
theorem c2t(j:Own B0 X A w μ ownN)(l:∀(k:Nat) (bl:Blk),own[k]?=some bl->ownN[k]?=some bl){A':Nat->Prop}(n:∀b,A' b->held A μ b){s t:SV}{v:Value}(d:D w (held A μ) μ s v)(hr:s.ro1 own=some t)(q:s.isOsl0=true->∀b,A' b->A b):D w A' BQ t v:=by
 have c:s.pure=true->t=s->D w A' BQ t v:=λy e=>by subst e;exact GS n d y
 cases d with
 |osl h=>
  simp only[SV.ro1]at hr;split at hr
  .rename_i f;cases hr;exact c6g j l n (q rfl) h f
  .cases hr
 |omp h=>
  simp only[SV.ro1]at hr;split at hr
  .rename_i f;cases hr;exact c76 j l n (q rfl) h f
  .cases hr
 |own h=>
  rename_i k off b;simp only[SV.ro1]at hr;split at hr
  .rename_i T cs f;cases hr;have u:=q rfl;exact b7h j l u h f (d8q own) (λs v d=>d19 j l n u d)
  .cases hr
 |int=>exact c rfl F5
 |bool=>exact c rfl F5
 |ub h1 h2=>exact c rfl F5
 |con=>exact c rfl F5
 |sl a b o m g z hx x B hl d=>exact c rfl F5
 |rel b o g hi C B hl d=>exact c rfl F5
 |mp r g C z hl d=>exact c rfl F5
 |clo vs hl d=>
  simp only[SV.ro1]at hr;split at hr
  .rename_i x;cases hr;have E:=List.isEmpty_iff.1 x;subst E;exact Cc
  .cases hr
 |_=>simp[SV.ro1]at hr
theorem c70(j:Own B0 X A w μ ownN)(l:∀(k:Nat) (bl:Blk),own[k]?=some bl->ownN[k]?=some bl){A':Nat->Prop}(m:∀b,A' b->held A μ b){s t:SV}{v:Value}(c:D w (held A μ) μ s v)(a:s.ro own=some t)(n:s.isOsl=true->∀b,A' b->A b):D w A' BQ t v:=by
 unfold SV.ro at a;split at a
 .rename_i f d;simp only[J7]at a;obtain⟨ts,q,rfl⟩:=a;obtain⟨l1,r⟩:=OI q;cases c with
  |clo u x c=>
   refine .clo u (by rw[x,l1]) (λi t v ht z=> ?_);have g:i<d.length:=Gw;obtain⟨y,o,e⟩:=r i _ (Iy g);rw[ht]at o;cases o;exact c2t j l m (c i _ v (Iy g) z) e (λh=>n (by simp only[SV.isOsl,Jj];exact⟨_,K2 g,h⟩))
 .rename_i B;refine c2t j l m c a (λh=>n ?_);unfold SV.isOsl;split
  .rename_i f d;exact absurd rfl (B f d)
  .exact h
theorem Wx(g:Own B0 X A w μ ownN)(j:∀(k:Nat) (bl:Blk),own[k]?=some bl->ownN[k]?=some bl){A':Nat->Prop}(l:∀b,A' b->held A μ b){s t:SV}{v:Value}(c:D w (held A μ) μ s v)(a:s.roA own=some t)(m:s.hasOsl=true->∀b,A' b->A b):D w A' BQ t v:=by
 unfold SV.roA at a;split at a
 .rename_i d;simp only[J7]at a;obtain⟨ts,o,rfl⟩:=a;obtain⟨l1,q⟩:=OI o;cases c with
  |agg r u c=>
   refine .agg r (by rw[u,l1]) (λi t v ht x=> ?_);have f:i<d.length:=Gw;obtain⟨y,n,e⟩:=q i _ (Iy f);rw[ht]at n;cases n;exact c70 g j l (c i _ v (Iy f) x) e (λh=>m (by simp only[SV.hasOsl,Jj];exact⟨_,K2 f,h⟩))
 .rename_i z;exact c70 g j l c a (λh=>m (by
   unfold SV.hasOsl;split
   .rename_i d;exact absurd rfl (z d)
   .exact h))
def d18(E:Env)(own:List Blk)(ρ:Operand->Option SV)(c:Call):Option (Prop×SV):=
 match c.callee with
 |.value f=>match ρ f with
  |some (.clo b a)=>(c.args.toList.mapM ρ).bind λd=>((d++a).mapM (SV.roA own)).bind λe=>(E.C b).bind λk=>(k e).bind λr=>
   if !((d++a).any SV.hasOsl)||r.2.flat2||E.fs b then some r else none
  |_=>none
 |_=>none
def GN(v:Value):Mu:=λk=>if k=0 then some v else none
def f5k(P:Program)(glob:Nat->Option SV)(f:FuncId)(e:LD):Prop:=
 (∃fn,P.funcs[f]?=some fn/\(fn.name== "runtime.NumGoroutine")=false/\fn.body.isNone=false)/\
 ∀(A:Nat->Prop) (w:World) (v:Value) (T:TypeId) (sz n:Nat) (g:Nat->List SV) (c:Option Nat) (rest:List SV) (vals:List Value) (pre:Prop) (g':Nat->List SV) (r:Bool),
  (∀b,A b->b<w.heap.size)->(∀b,CN v b->b<w.heap.size/\¬A b)->(∀q t,glob q=some t->t.pure=true/\D w (held A (GN v)) BQ t (.pointer (some ⟨q,0,none⟩)))->
  DK w (held A (GN v)) (GN v) v (.row T sz n g c)->DL w (held A (GN v)) BQ rest vals->e T sz n g rest=some (pre,g',r)->pre->
  Calls P f (v::vals).toArray w λx w'=>∃res,x=.returned res/\(r=true->res=v)/\(r=false->res=.tuple #[])/\DK w' (held A (GN v)) (GN v) v (.row T sz n g' c)/\Fr w.heap.size (λb=>CN v b) w w'
def c87(P:Program)(glob:Nat->Option SV)(f:FuncId)(c:List SV->Option (Prop×SV)):Prop:=
 ∀(A:Nat->Prop) (w:World) (a:List SV) (d:List Value) (h:Prop) (s:SV),(∀b,A b->b<w.heap.size)->(∀g t,glob g=some t->t.pure=true/\D w A BQ t (.pointer (some ⟨g,0,none⟩)))->
  DL w A BQ a d->c a=some (h,s)->h->
  Calls P f d.toArray w λe i=>∃v,e=.returned v/\D i (λb=>b<w.heap.size) BQ s v/\Fr w.heap.size (λ_=>False) w i
def VN(μ:Mu)(b:Nat):Prop:=∃k x,μ k=some x/\CN x b
def d4q(P:Program)(glob:Nat->Option SV)(f:FuncId)(h:HK):Prop:=
 (∃fn,P.funcs[f]?=some fn/\(fn.name== "runtime.NumGoroutine")=false/\fn.body.isNone=false)/\
 ∀(A:Nat->Prop) (w:World) (args:List SV) (vals:List Value) (own:List Blk) (μ:Mu) (r:HRes),(∀b,A b->b<w.heap.size)->(∀g t,glob g=some t->t.pure=true/\D w (held A μ) BQ t (.pointer (some ⟨g,0,none⟩)))->
  Own 0 (λ_=>True) A w μ own->(∀k,own.length<=k->μ k=none)->DL w (held A μ) μ args vals->h args own=some r->r.pre->
  Calls P f vals.toArray w λx w'=>∃v μ',x=.returned v/\Own w.heap.size (VN μ) A w' μ' r.own/\(∀k,r.own.length<=k->μ' k=none)/\D w' (held A μ') μ' r.res v/\
   (∀k x,k<own.length->r.chg.contains k=false->μ k=some x->μ' k=some x)/\Fr w.heap.size (VN μ) w w'
def XSound(E:Env):Prop:=∀f e,E.X f=some e->f5k E.P E.glob f e
def GR(E:Env):Prop:=(∀f c,E.C f=some c->c8f E.P E.glob f c/\(E.fs f=true->c87 E.P E.glob f c))/\XSound E/\∀f h,E.Hc f=some h->d4q E.P E.glob f h
theorem c66{H:Nat->Prop}{xs b:List SV}{us vs:List Value}(h:DL w H μ xs us)(k:DL w H μ b vs):DL w H μ (xs++b) (us++vs):=by
 refine⟨by simp[h.1,k.1],λi s v hs a=> ?_⟩;by_cases c:i<xs.length
 .rw[Jc c]at hs;rw[Jc (by rw[h.1];exact c)]at a;exact h.2 i s v hs a
 .rw[Jm Dv]at hs;rw[Jm (by rw[h.1];omega),h.1]at a;exact k.2 _ s v hs a
theorem c9h(Z:GR E)(z:Own B0 X A w μ ownN)(bf:∀(k:Nat) (bl:Blk),own[k]?=some bl->ownN[k]?=some bl)(n:∀g s,E.glob g=some s->s.pure=true/\D w (held A μ) μ s (.pointer (some ⟨g,0,none⟩))){a:Act}{ρ:Operand->Option SV}
 (B:∀(x:Operand) (s:SV),ρ x=some s->D w (held A μ) μ s (a.eval x)) {o:Oper} {c:Call} (ho:o.op=.call c) {C:Prop} {s:SV} (l:d18 E own ρ c=some (C,s)) (O:C):
 ∃f r,(execOp a.eval o).run E.P w=.ok (.enter f r) w/\Calls E.P f r w λe F=>∃v,e=.returned v/\D F (held A μ) μ s v/\Fr w.heap.size (λ_=>False) w F:=by
 unfold d18 at l;split at l;rotate_left
 .cases l
 rename_i f hf;split at l;rotate_left
 .cases l
 rename_i G d H;simp only[J8]at l;obtain⟨Q,ku,M,qu,k,R,⟨p,t⟩,S,l⟩:=l;split at l;rotate_left
 .cases l
 rename_i T;simp only[Id]at l;obtain⟨rfl,rfl⟩:=l;have U:=B _ _ H;generalize t8:a.eval f=vf at U;obtain⟨⟨⟨fn,h1,h2,h3⟩,hS⟩,Z3⟩:=Z.1 G k R;cases U with
 |clo u fu nh=>
  have V:=c66 (Tw (a:=a) B ku) (⟨fu,nh⟩:DL w (held A μ) μ d u);refine⟨G,((c.args.toList.map a.eval)++u).toArray,?_,?_⟩
  .have hm:c.args.map a.eval=(c.args.toList.map a.eval).toArray:=F4;simp only[execOp,ho,resolve,hf,t8,Deferred.ofValue,hm,Ie,invoke,callFunc,run_program,h1,h2,Ik,h3];simp
  .obtain⟨l1,l2⟩:=OI qu;have conv:∀N:Nat->Prop,(∀b,N b->held A μ b)->(((Q++d).any SV.hasOsl)=true->∀b,N b->A b)->DL w N BQ M ((c.args.toList.map a.eval)++u):=by
    intro N hA jf;refine⟨by rw[V.1,l1],λi s v hs hv=> ?_⟩;have b6:i<(Q++d).length:=G9;obtain⟨y,W,e⟩:=l2 i _ (Iy b6);rw[hs]at W;cases W;exact Wx z bf hA (V.2 i _ v (Iy b6) hv) e (λh=>jf Hr)
   have Y:∀b,held A μ b->b<w.heap.size:=λb I=>by
    rcases I with I|⟨k,x,R,hx⟩
    .exact z.bnd b I
    .exact(z.rng k x b R hx).1
   cases zb:(Q++d).any SV.hasOsl with
   |false=>
    refine(hS (held A μ) w M _ p t Y (λg q m=>⟨(n g q m).1,GS (λ_ h=>h) (n g q m).2 (n g q m).1⟩) (conv _ (λ_ h=>h) (λh=>by rw[zb]at h;cases h)) S O).mono ?_;rintro e F ⟨v,rfl,J,K⟩;exact⟨v,rfl,J.keep ⟨J9 _,λ_ _ _=>rfl,λ_ _ h=>h,λj x hx=>by cases hx⟩,K⟩
   |true=>
    rw[zb]at T;simp only[Bool.not_true,N4,K1]at T;rcases T with dp|L;rotate_left
    .refine(Z3 L A w M _ p t z.bnd (λg q m=>⟨(n g q m).1,GS (λ_ h=>.inl h) (n g q m).2 (n g q m).1⟩) (conv A (λ_ h=>.inl h) (λ_ _ h=>h)) S O).mono ?_;rintro e F ⟨v,rfl,J,K⟩;exact⟨v,rfl,J.keep ⟨J9 _,λ_ _ _=>rfl,λb _ I=>Y b I,λj x hx=>by cases hx⟩,K⟩
    refine(hS A w M _ p t z.bnd (λg q m=>⟨(n g q m).1,GS (λ_ h=>.inl h) (n g q m).2 (n g q m).1⟩) (conv A (λ_ h=>.inl h) (λ_ _ h=>h)) S O).mono ?_;rintro e F ⟨v,rfl,J,K⟩;exact⟨v,rfl,f6w dp J,K⟩
theorem Fr.keeps{w':World}(h:Fr w.heap.size (λ_=>False) w w'){H:Nat->Prop}:Keeps w w' H H μ μ:=
 ⟨h.size,λb a _=>h.block b a (λh=>h),λ_ _ h=>h,λ_ _ h=>h⟩
theorem Own.calls{w':World}(c:Own B0 X A w μ own)(h:Fr w.heap.size (λ_=>False) w w'):Own B0 X A w' μ own:=
 ⟨λk x hx=>by
   obtain⟨d,e,a⟩:=c.blk k x hx;exact⟨d,e,a.keep h.keeps (λb a=>h.block b (c.rng k x b hx a).1 (λh=>h))⟩,c.inj,
   λk x b f a=>by obtain⟨g,i⟩:=c.rng k x b f a;exact⟨K0 g h.size,i⟩,λb a=>K0 (c.bnd b a) h.size⟩
end
def Ye(x y:Option SV):Option SV:=match x with
 |some s=>some s
 |none=>y
def d4i(b:Bool)(x y:Operand)(a c:SV):Option SV:=match a,c with
 |.bool s,.bool t=>match x,y with
  |.const (.bool true),_=>some (.bool (b||t))
  |_,.const (.bool false)=>some (.bool (b&&s))
  |_,_=>some (.bool (bif b then s else t))
 |.int k n,.int d m=>if k=d then some (.int k (bif b then n else m))else none
 |_,_=>none
def f5b(E:Env)(ρ:List Entry)(g:Option (Nat×Bool))(c x y:Operand):Option (Prop×SV):=match c with
 |.tmp a=>match CK E ρ g (.tmp a)with
  |some (.bool b)=>(Ye (CK E ρ g x) (CK E ρ (some (a,true)) x)).bind λd=>(Ye (CK E ρ g y) (CK E ρ (some (a,false)) y)).bind λe=>(d4i b x y d e).map λs=>(True,s)
  |_=>none
 |_=>none
def Rc(E:Env)(st:St)(g:Option (Nat×Bool))(a:Op):Option (Prop×SV):=match a with
 |.pick c x y=>f5b E st.ρ g c x y
 |.call c=>match c.callee with
  |.value _=>d18 E st.own (CK E st.ρ g) c
  |_=>d5r E st.own (CK E st.ρ g) a
 |a=>d5r E st.own (CK E st.ρ g) a
def Wm(ρ:List Entry):Nat->Nat->Bool->Option Prop
 |0,_,_=>none
 |n+1,g,p=>match CJ g ρ with
  |some e=>match e.sv with
   |.bool b=>match e.guard with
    |none=>some (b=p)
    |some (a,d)=>(Wm ρ n a d).map λc=>c/\b=p
   |_=>none
  |none=>none
def JS(nt:Nat)(d:Option Nat):Bool:=match d with
 |some d=>decide (d<nt)
 |none=>true
def c8z(E:Env)(ρ:Operand->Option SV)(T:TypeId)(r:Option Operand):Option Blk:=
 match E.P.underlying T with
 |some (.map _ a)=>(E.kt T).bind λK=>(Io E.P a).bind λb=>(Ov E.P a).bind λz=>
  match r with
  |none=>some (.map K b (λ_=>false) (λ_=>z))
  |some x=>match ρ x with
   |some (.int _ _)=>some (.map K b (λ_=>false) (λ_=>z))
   |_=>none
 |_=>none
def f6c:SV->Bool
 |.agg _=>true
 |_=>false
def b9w(E:Env)(own:List Blk)(T:TypeId)(m i x:SV):Option (List Blk):=
 match E.P.underlying T,m with
 |some (.map _ _),.omp k=>match own[k]? with
  |some (.map K b a val)=>if E.kt T=some K/\f6c x=b then(Wy K i).bind λq=>x.cells.bind λc=>
   if c.all SV.pure then some (own.set k (.map K b (KA a q) (λp=>DC (decide (p=q)) c (val p))))else none
   else none
  |_=>none
 |_,_=>none
def f0y(E:Env)(nt:Nat)(ops:Array Oper)(st:St)(o:Oper):Option (Prop×St):=
 if !JS nt o.dst then none else
 match o.guard with
 |some (j,p)=>match o.dst,(ops[j]?).bind (·.dst)with
  |some d,some g=>if g<nt/\g≠d then(Wm st.ρ 5 g p).bind λc=>(Rc E st (some (g,p)) o.op).map λr=>(c->r.1,{st with ρ:=KO (some d) (some (g,p)) r.2 st.ρ})else none
  |_,_=>none
 |none=>match o.op with
  |.store T p x=>(CK E st.ρ none p).bind λi=>(CK E st.ρ none x).bind λa=>(Ta E.P st.own T i a).bind λr=>if o.dst=none then some (r.1,{st with own:=r.2})else none
  |.alloc _|.box _ _|.buildSlice _ _ _|.makeSlice _ _ _=>(Wj E.P st.own (CK E st.ρ none) o.op).map λr=>(r.1,{ρ:=KO o.dst none r.2.1 st.ρ,own:=st.own++[r.2.2]})
  |.makeMap T r=>(c8z E (CK E st.ρ none) T r).map λb=>(True,{ρ:=KO o.dst none (.omp st.own.length) st.ρ,own:=st.own++[b]})
  |.mapUpdate T m k x|.insert T m k x=>(CK E st.ρ none m).bind λl=>(CK E st.ρ none k).bind λsk=>(CK E st.ρ none x).bind λa=>(b9w E st.own T l sk a).bind λe=>if o.dst=none then some (True,{st with own:=e})else none
  |.call {callee:=.builtin .append,args:=⟨[x,y]⟩,argTypes:=⟨[T,U]⟩}=>if T=U then(CK E st.ρ none x).bind λa=>(CK E st.ρ none y).bind λn=>(TP E.P st.own T a n).bind λr=>
   if !r.2.2.2&&E.ak r.2.1 then none else some (r.1,{ρ:=KO o.dst none (.osl r.2.1) (if r.2.2.2 then st.ρ else UN [r.2.1] st.ρ),own:=r.2.2.1})else none
  |.slice T x f h none=>(match CK E st.ρ none x with
   |some (.osl k)=>(b5x E.P st.own T k (PX (CK E st.ρ none) f) (PX (CK E st.ρ none) h)).bind λr=>if E.ak k then none else some (r.1,{ρ:=KO o.dst none (.osl k) (UN [k] st.ρ),own:=r.2})
   |_=>(Rc E st none (.slice T x f h none)).map λr=>(r.1,{st with ρ:=KO o.dst none r.2 st.ρ}))
  |q=>(Rc E st none q).map λr=>(r.1,{st with ρ:=KO o.dst none r.2 st.ρ})
section
variable{E:Env}{B0:Nat}{X A:Nat->Prop}{w0:World}{nt:Nat}{st:St}{a:Act}{w:World}{μ:Mu}
theorem SD.opds(h:SD E B0 X A w0 nt st a w μ){g:Option (Nat×Bool)}(c:∀q b,g=some (q,b)->a.tmps.getD q undef=.bool b):∀(x:Operand) (s:SV),CK E st.ρ g x=some s->D w (held A μ) μ s (a.eval x):=
 Qv (λn s d=>(h.glo n s d).2) h.env c
theorem c1n{H:Nat->Prop}{b:Bool}{x y:Operand}{e f s:SV}{u v:Value}(hx:b=true->D w H μ e u)(c:b=false->D w H μ f v)(g:∀z,x=.const z->u=z)(d:∀z,y=.const z->v=z)(a:d4i b x y e f=some s):
 D w H μ s (if b then u else v):=by
 unfold d4i at a;split at a
 .rename_i s1 t1;split at a
  .cases a;have:=g _ rfl;subst this;cases b
   .have:=c rfl;cases this;exact .bool
   .exact .bool
  .cases a;have:=d _ rfl;subst this;cases b
   .exact .bool
   .have:=hx rfl;cases this;exact .bool
  .cases a;cases b
   .have:=c rfl;cases this;exact .bool
   .have:=hx rfl;cases this;exact .bool
 .split at a
  .rename_i h;cases a;subst h;cases b
   .have:=c rfl;cases this;exact .int
   .have:=hx rfl;cases this;exact .int
  .cases a
 .cases a
theorem d1c{x y:Option SV}{s:SV}(h:Ye x y=some s):x=some s\/y=some s:=by unfold Ye at h;split at h<;>simp_all
theorem b22(U:EnvOK E)(V:GR E){ρ:List Entry}{own j:List Blk}(L:Own B0 X A w μ j)(M:∀(k:Nat) (bl:Blk),own[k]?=some bl->j[k]?=some bl)(N:∀g s,E.glob g=some s->s.pure=true/\D w (held A μ) μ s (.pointer (some ⟨g,0,none⟩)))
 (W:EP w (held A μ) μ a.tmps ρ) {g:Option (Nat×Bool)} (F:∀q b,g=some (q,b)->a.tmps.getD q undef=.bool b) {o:Oper} {m:Prop} {s:SV} (d:Rc E ⟨ρ,own⟩ g o.op=some (m,s)) (O:m)
 {K:Act->World->Prop} {Q:Exit->Act->World->Prop} (R:∀v t,D t (held A μ) μ s v->Fr w.heap.size (λ_=>False) w t->K (a.put o.dst v) t):o.wp E.P a w K Q:=by
 have opds:∀{g:Option (Nat×Bool)},(∀q b,g=some (q,b)->a.tmps.getD q undef=.bool b)->∀(x:Operand) (s:SV),CK E ρ g x=some s->D w (held A μ) μ s (a.eval x):=λF=>Qv (λn s Y=>(N n s Y).2) W F;have i:=opds F;have h:∀v,(execOp a.eval o).run E.P w=.ok (.value v) w->D w (held A μ) μ s v->o.wp E.P a w K Q:=by intro v u B;unfold Oper.wp;rw[u];exact R v w B ⟨rfl,rfl,rfl,λ_=>J9 _,J9 _,λ_ _ _=>rfl⟩
 have val:d5r E own (CK E ρ g) o.op=some (m,s)->o.wp E.P a w K Q:=by intro d;obtain⟨v,u,B⟩:=d3y U L M i d O;exact h v u B
 unfold Rc at d;split at d
 .rename_i c x y G;unfold f5b at d;split at d;rotate_left
  .cases d
  rename_i C;split at d;rotate_left
  .cases d
  rename_i b Z;simp only[J8,Ic]at d;obtain⟨r,hx,sy,hy,s',hs,rfl,rfl⟩:=d;have S:=i _ _ Z;generalize T:a.eval (.tmp C)=cv at S;cases S;have H:a.tmps.getD C undef=.bool b:=T;have l:∀(p:Bool) (x:Operand) (r:SV),Ye (CK E ρ g x) (CK E ρ (some (C,p)) x)=some r->b=p->D w (held A μ) μ r (a.eval x):=by
   intro p x r hx I;rcases d1c hx with hx|hx
   .exact i x r hx
   .exact opds (g:=some (C,p)) (λq p' e=>by cases e;rw[H,I]) x r hx
  refine h (if b then a.eval x else a.eval y) ?_ (c1n (l true x r hx) (l false y sy hy) (λz J=>by subst J;rfl) (λz J=>by subst J;rfl) hs);simp only[execOp,G,T];cases b<;>simp[asBool]
 .rename_i c G;split at d
  .obtain⟨f,vals,u,hc⟩:=c9h V L M N i (o:=o) G d O;unfold Oper.wp;rw[u];refine hc.mono ?_;rintro e t ⟨v,rfl,B,bk⟩;exact R v t B bk
  .exact val d
 .rename_i op h1 h2;exact val d
theorem b8a(e:EnvOK E)(f:GR E)(h:SD E B0 X A w0 nt st a w μ){g:Option (Nat×Bool)}(i:∀q b,g=some (q,b)->a.tmps.getD q undef=.bool b){o:Oper}{c:Prop}{s:SV}(j:Rc E st g o.op=some (c,s))(k:c)
 {K:Act->World->Prop} {Q:Exit->Act->World->Prop} (l:∀v d,D d (held A μ) μ s v->Fr w.heap.size (λ_=>False) w d->K (a.put o.dst v) d):o.wp E.P a w K Q:=
 b22 e f h.own (λ_ _ h=>h) h.glo h.env i j k l
theorem SD.put(h:SD E B0 X A w0 nt st a w μ){w':World}{μ':Mu}{own':List Blk}{c:List Entry}(l:Own B0 X A w' μ' own')(f:Fr B0 X w w')(m:∀g s,E.glob g=some s->s.pure=true/\D w' (held A μ') μ' s (.pointer (some ⟨g,0,none⟩)))
 (i:EP w' (held A μ') μ' a.tmps c) (n:∀k,own'.length<=k->μ' k=none) (o:∀k x,E.an k=some x->μ' k=some x) {d:Option Nat} (r:JS nt d=true) {s:SV} {v:Value} (t:D w' (held A μ') μ' s v):
 SD E B0 X A w0 nt {ρ:=KO d none s c,own:=own'} (a.put d v) w' μ':=by
 refine⟨l,h.fr.trans f,Kq h.base f.size,m,?_,?_,?_,n,o⟩
 .cases d<;>exact h.dfr
 .cases d<;>simp[Act.put,h.size]
 .cases d with
  |none=>exact i
  |some d=>
   have j:d<a.tmps.size:=by rw[h.size];simpa[JS]using r
   refine i.put j (λq b e=>E3) ?_;unfold CZ;simp only;rw[NJ j,Iz rfl];exact t
theorem NH{w':World}{μ':Mu}{H H':Nat->Prop}(b:Keeps w w' H H' μ μ')(h:∀g s,E.glob g=some s->s.pure=true/\D w H μ s (.pointer (some ⟨g,0,none⟩))):∀g s,E.glob g=some s->s.pure=true/\D w' H' μ' s (.pointer (some ⟨g,0,none⟩)):=
 λg s a=>⟨(h g s a).1,(h g s a).2.keep b⟩
theorem b1s{w':World}{μ':Mu}{H H':Nat->Prop}{k:List Nat}(b:Keeps' k w w' H H' μ μ')(h:∀g s,E.glob g=some s->s.pure=true/\D w H μ s (.pointer (some ⟨g,0,none⟩))):∀g s,E.glob g=some s->s.pure=true/\D w' H' μ' s (.pointer (some ⟨g,0,none⟩)):=
 λg s a=>⟨(h g s a).1,KI b (h g s a).2 (h g s a).1⟩
theorem b08{H:Nat->Prop}{tmps:Array Value}{ρ:List Entry}(o:EP w H μ tmps ρ):∀(n g:Nat) (p:Bool) (c:Prop),Wm ρ n g p=some c->tmps.getD g undef=.bool p->c:=by
 intro n;induction n with
 |zero=>intro g p c h;simp[Wm]at h
 |succ n q=>
  intro g p c h i;simp only[Wm]at h;split at h;rotate_left
  .cases h
  rename_i e j;have hs:=MY j;have a:=o g e j;unfold CZ at a;split at h;rotate_left
  .cases h
  rename_i b k;split at h
  .rename_i d;cases h;rw[d,k,hs,i]at a;simp only at a;cases a;rfl
  .rename_i l m d;simp only[J7]at h;obtain⟨r,s,rfl⟩:=h;rw[d,k,hs,i]at a;simp only at a;by_cases f:tmps.getD l undef=.bool m
   .have:=a.1 f;cases this;exact⟨q l m r s f,rfl⟩
   .have:=a.2 f;cases this
theorem b83{ops:Array Oper}{o:Oper}{j g:Nat}{p:Bool}(d:o.guard=some (j,p))(e:(ops[j]?).bind (·.dst)=some g)(f:g<a.tmps.size):
 Region.wanted o (yielded ops a.tmps)=true↔a.tmps.getD g undef=.bool p:=by
 simp only[Region.wanted,d,yielded,e,Lq,Mx,M2 f,Kn];split
 .rename_i b c;rw[Ju]at c;rw[c];simp
 .rename_i i;simp only[Lr];constructor
  .intro h;cases h
  .intro h;exact absurd (by rw[h]) (i p)
theorem d2f(sz:Nat):∀(ps:List (Nat×Value)) (b:Nat) (vs:List Value),ps.map (·.1)=List.range' b ps.length->(∀p∈ps,p.2.cells.size=sz)->(b+ps.length)*sz<=vs.length->
 (∀v∈vs,v.oneCell'=true)->(∀p∈ps,∀v∈p.2.cells.toList,v.oneCell'=true)->
 ∃d:List Value,Instr.fill (λi=>some (i*sz,sz)) vs.toArray ps=some d.toArray/\d.length=vs.length/\(∀v∈d,v.oneCell'=true)/\
  (∀x,x<b*sz->d[x]?=vs[x]?)/\∀(i j:Nat) (p:Nat×Value),ps[i]?=some p->j<sz->d[(b+i)*sz+j]?=p.2.cells.toList[j]?:=by
 intro ps;induction ps with
 |nil=>intro b vs _ _ _ k _;exact⟨vs,rfl,rfl,k,λ_ _=>rfl,λi j p h=>E6⟩
 |cons q ps t=>
  intro b vs g hs l k n;obtain⟨a,c⟩:=q;simp only[Km,Kh,List.range'_succ,List.cons.injEq]at g;obtain⟨rfl,g⟩:=g;have f:c.cells.size=sz:=hs (a,c) Dx;have m:a*sz+sz<=vs.length:=by have:(a+1)*sz<=(a+(ps.length+1))*sz:=Ka _ Dv;rw[Mg]at this;simp only[Kh]at l;omega
  obtain⟨d,u,w,y,o,z⟩:=t (a+1) (over vs (a*sz) c.cells.toList) g (λp e=>hs p (by simp[e])) (by rw[Oa];simp only[Kh]at l;rw[show a+1+ps.length=a+(ps.length+1)from Dv];exact l)
   (TV _ _ _ k (n (a,c) Dx)) (λp e=>n p (by simp[e]))
  have r:=λx=>NF c.cells.toList vs (a*sz) x (by simp[f];exact m);refine⟨d,?_,by rw[w,Oa],y,λx hx=> ?_,λi j p e s=> ?_⟩
  .simp only[Instr.fill];have A:¬(a*sz+c.cells.size>vs.toArray.size):=by rw[f];simp;exact m
   rw[J3 (by rw[Ji A];simp[f])];have:(c.cells.zipIdx.foldl (λB x=>B.setIfInBounds (a*sz+x.2) x.1) vs.toArray)=(over vs (a*sz) c.cells.toList).toArray:=by have:=b7s c.cells.toList 0 (a*sz) vs (by simp only[L8,Lu,f];exact m);rw[<-Array.foldl_toList];simpa using this
   rw[this];exact u
  .rw[o x (by rw[Mg];omega),r,J3 Dv]
  .match i with
   |0=>
    simp at e;subst e;rw[Lu,o _ (by rw[Mg];omega),r,Iz (by simp[f];exact s),Nat.add_sub_cancel_left]
   |i+1=>
    have:=z i j p (by simpa using e) s;rwa[show a+1+i=a+(i+1)from Dv]at this
theorem b6v{own B:List Blk}(W:Own B0 X A w μ B)(Y:B0<=w.heap.size)(Z:μ own.length=none){ρ:Operand->Option SV}(F:∀(x:Operand) (s:SV),ρ x=some s->D w (held A μ) μ s (a.eval x)){o:Oper}{pre:Prop}{s:SV}{b:Blk}
 (f:Wj E.P own ρ o.op=some (pre,s,b)) (M:pre) (d8:B[own.length]?=some b):
 ∃r G k,(execOp a.eval o).run E.P w=.ok (.value r) G/\After B0 X A w G μ k B/\(∀j,j≠own.length->k j=μ j)/\D G (held A k) k s r:=by
 unfold Wj at f;split at f
 .rename_i T I;simp only[J8]at f;obtain⟨z,hz,f⟩:=f;split at f;rotate_left
  .cases f
  rename_i N;simp only[Id]at f;obtain⟨rfl,rfl,rfl⟩:=f;obtain⟨r,G,k,J,K,L,h4⟩:=c4m (P:=E.P) W Y Z hz N d8;exact⟨r,G,k,by simp[execOp,I,J],K,L,h4⟩
 .rename_i T x I;simp only[J8]at f;obtain⟨sx,hx,t,ga,f⟩:=f;split at f;rotate_left
  .cases f
  rename_i N;simp only[Id]at f;obtain⟨rfl,rfl,rfl⟩:=f;obtain⟨r,G,k,J,K,L,h4⟩:=d12 (P:=E.P) W Y Z (F _ _ hx) ga N d8;exact⟨r,G,k,by simp[execOp,I,J],K,L,h4⟩
 .rename_i T I;simp only[J8,Ic]at f;obtain⟨e,hT,sz,bn,rfl,rfl,rfl⟩:=f;simp only[CX,J7]at bn;obtain⟨g,O,rfl⟩:=bn;obtain⟨k,J,K,L⟩:=c4k W Y Z (vs:=[]) d8 (J9 _) (Je _) (λi hi=>absurd hi (Jq _)) Dx Dx (λi j s v hi=>absurd hi (Jq _));refine⟨_,_,k,?_,J,K,L⟩;simp[execOp,I,Instr.buildSlice,K5 (QT hT),HY O,Instr.fill,newRow];congr 2;apply Array.ext';simp
 .rename_i T n d hnp I;simp only[J8]at f;obtain⟨e,hT,sz,bn,z,hz,ps,Z1,f⟩:=f;split at f;rotate_left
  .cases f
  rename_i N;obtain⟨Pd,Z5,bu,hbig,tk,qw,bw⟩:=N;simp only[Id]at f;obtain⟨rfl,rfl,rfl⟩:=f;simp only[CX,J7]at bn;obtain⟨g,O,rfl⟩:=bn;obtain⟨inf',C,Q,mn,rfl,pu⟩:=SI (w:=w) (H:=held A μ) (μ:=μ) hz;rw[O]at Q;cases Q;have pe:C.cells.size=g.size:=Fa;obtain⟨l1,l2⟩:=OI Z1;have bc:ps.length=n:=by have:=Mc List.length Pd;simpa using this
  have part:∀(i:Nat) (q:Nat×Operand),d.toList[i]?=some q->∃t:List SV,ps[i]?=some (q.1,t)/\t.all SV.isCell=true/\t.all SV.pure=true/\t.length=g.size/\DL w (held A μ) μ t (a.eval q.2).cells.toList:=by intro i q R;obtain⟨y,hy,u⟩:=l2 i q R;simp only[J8,J7]at u;obtain⟨sq,Y4,t,ga,rfl⟩:=u;have U:=Ja.1 bw _ (J6 hy);simp only[Ij]at U;exact⟨t,hy,U.1.1,U.1.2,U.2,(F _ _ Y4).cells ga⟩
  have fk:∀p∈d.toList.map λ(q:Nat×Operand)=>(q.1,a.eval q.2),p.2.cells.size=g.size/\∀v∈p.2.cells.toList,v.oneCell'=true:=by
   intro p M;obtain⟨i,hi,u⟩:=Jw.1 M;have Q:i<d.toList.length:=Er;obtain⟨t,V,c2,c3,c4,c5⟩:=part i _ (Iy Q);have:p=(d.toList[i].1,a.eval d.toList[i].2):=by rw[<-u];simp
   subst this;exact⟨by have:=c5.1;rw[L8]at this;exact this.trans c4,SO c5 c2⟩
  have fy:∀v∈C.cells.toList,v.oneCell'=true:=SO pu qw;have S:∀v∈(madeCells C.cells (n*g.size)).toList,v.oneCell'=true:=by intro v hv;obtain⟨i,hi,u⟩:=Jw.1 hv;obtain⟨_,rfl⟩:=b3a _ _ i v (by rw[<-u];exact Iy hi);have b6:i%C.cells.size<C.cells.size:=Nk _ Dv;rw[Lh C.cells _ b6];exact fy _ Dx
  have fg:(d.toList.map λ(q:Nat×Operand)=>(q.1,a.eval q.2)).length=n:=by rw[Jv,<-l1,bc]
  have hfst:(d.toList.map λ(q:Nat×Operand)=>(q.1,a.eval q.2)).map (·.1)=List.range' 0 (d.toList.map λ(q:Nat×Operand)=>(q.1,a.eval q.2)).length:=by
   rw[fg,<-List.range_eq_range',<-Pd];apply Ly;intro i;simp only[Jr,Ma];cases R:d.toList[i]? with
   |none=>
    have:ps[i]?=none:=by rw[List.getElem?_eq_none_iff]at R⊢;rw[l1];exact R
    simp[this]
   |some q=>
    obtain⟨t,V,_⟩:=part i q R;simp[V]
  obtain⟨us,f1,f2,f3,f4,f5⟩:=d2f g.size _ 0 (madeCells C.cells (n*g.size)).toList hfst (λp M=>(fk p M).1) (by rw[fg];simp[size_madeCells]) S (λp M=>(fk p M).2);have dt:∀i,i<n->∃(q:Nat×Operand) (t:List SV),d.toList[i]?=some q/\(ps.map (·.2)).getD i []=t/\t.all SV.pure=true/\t.length=g.size/\DL w (held A μ) μ t (a.eval q.2).cells.toList:=by
   intro i hi;have Q:i<d.toList.length:=by rw[<-l1,bc];exact hi
   obtain⟨t,V,c2,c3,c4,c5⟩:=part i _ (Iy Q);exact⟨_,t,Iy Q,by simp[V],c3,c4,c5⟩
  obtain⟨k,J,K,L⟩:=c4k W Y Z (vs:=us) d8 (J9 _) (by
   have:n*1<=n*g.size:=Nat.mul_le_mul_left _ bu;simp only[maxLen];omega) (λi hi=>by obtain⟨q,t,_,u,e2,e3,_⟩:=dt i hi;rw[u];exact⟨e3,e2⟩) (by rw[f2];simp[size_madeCells]) f3 (λi j s v hi hs hv=>by
   obtain⟨q,t,R,u,e2,e3,e4⟩:=dt i hi;rw[u]at hs;have hj:j<g.size:=by rw[<-e3];exact(J4.1 hs).1
   have:=f5 i j (q.1,a.eval q.2) (by rw[Jr,R];rfl) hj;rw[Kv,hv]at this;exact e4.2 j s v hs this.symm)
  refine⟨_,_,k,?_,J,K,L⟩;have U:(d.map λ(q:Nat×Operand)=>(q.1,a.eval q.2))=(d.toList.map λq=>(q.1,a.eval q.2)).toArray:=by apply Array.ext';simp
  have tp:(Array.range (n*g.size)).map (λi=>C.cells[i%C.cells.size]!)=(madeCells C.cells (n*g.size)).toList.toArray:=by apply Array.ext';simp[madeCells]
  have hnz:¬(n*g.size=0):=by have:1*1<=n*g.size:=Nat.mul_le_mul Z5 bu;omega
  simp only[execOp,I,U,Instr.buildSlice,Ie,K5 (QT hT),HY O,J3 (by omega:¬n*g.size>2^24),J3 hnz,VH O mn,tp,f1,newRow];simp
 .rename_i T l c I;simp only[J8]at f;obtain⟨e,hT,g,O,z,hz,f⟩:=f;split at f;rotate_left
  .cases f
  rename_i kl n kc m hl N;split at f;rotate_left
  .cases f
  rename_i du;obtain⟨V,c2,c3,c4⟩:=du;simp only[Id]at f;obtain⟨rfl,rfl,rfl⟩:=f;obtain⟨p1,p2,p3,p4⟩:=M;obtain⟨r,G,k,J,K,L,h4⟩:=d0p (P:=E.P) (kl:=kl) (kc:=kc) W Y Z hT O hz V c2 c3 c4 p1 p2 p3 p4 d8;have d1:=F _ _ hl;have d2:=F _ _ N;generalize u:a.eval l=v1 at d1;generalize e2:a.eval c=v2 at d2;cases d1;cases d2;exact⟨r,G,k,by simp[execOp,I,u,e2,J],K,L,h4⟩
 .cases f
theorem b1y(_:EnvOK E){own c:List Blk}(t:Own B0 X A w μ c)(m:B0<=w.heap.size)(u:μ own.length=none){ρ:Operand->Option SV}(g:∀(x:Operand) (s:SV),ρ x=some s->D w (held A μ) μ s (a.eval x)){o:Oper}{T:TypeId}{r:Option Operand}(y:o.op=.makeMap T r){b:Blk}
 (d:c8z E ρ T r=some b) (B:c[own.length]?=some b):
 ∃v k f,(execOp a.eval o).run E.P w=.ok (.value v) k/\After B0 X A w k μ f c/\(∀j,j≠own.length->f j=μ j)/\D k (held A f) f (.omp own.length) v:=by
 unfold c8z at d;split at d;rotate_left
 .cases d
 rename_i ky elem C;simp only[J8]at d;obtain⟨K,hK,F,qy,z,hz,d⟩:=d;have l:b=.map K F (λ_=>false) (λ_=>z)/\(Instr.makeMap T (r.map a.eval)).run E.P w=.ok (.map (some w.heap.size)) (w.alloc (.map #[] 0)):=by
  split at d
  .cases d;exact⟨rfl,by simp[Instr.makeMap]⟩
  .rename_i x;split at d
   .rename_i hx;cases d;have n:=g _ _ hx;generalize G:a.eval x=v at n;cases n;exact⟨rfl,by simp[Instr.makeMap,G,K5 C,asInt,asIntOf]⟩
   .cases d
 obtain⟨rfl,H⟩:=l;obtain⟨I,J⟩:=Tn t m u B (.map #[] 0) (.map (some w.heap.size)) (λb l=>(d2p.1 l).symm) (λf _ _=>⟨w.heap.size,λ_=>[],rfl,⟨#[],0,Mr w _,λe h=>E6,λq h=>E8,Dx⟩,λq h=>E8,λq i s v h=>E8⟩);refine⟨.map (some w.heap.size),_,_,by simp[execOp,y,H],⟨I,Fr.alloc _ m,J⟩,λj hj=>Ek,.omp Ed⟩
theorem c0a(hE:EnvOK E){own:List Blk}(d:Own B0 X A w μ own){T:TypeId}{m i x:SV}{vm N n:Value}{own':List Blk}(hm:D w (held A μ) μ m vm)(hi:D w (held A μ) μ i N)(hx:D w (held A μ) μ x n)(a:b9w E own T m i x=some own'):
 ∃O,(Instr.mapUpdate T vm N n).run E.P w=.ok () O/\After B0 X A w O μ μ own'/\own'.length=own.length:=by
 unfold b9w at a;split at a;rotate_left
 .cases a
 rename_i ky elem k Q;split at a;rotate_left
 .cases a
 rename_i K t f val R;split at a;rotate_left
 .cases a
 rename_i l;obtain⟨wa,G⟩:=l;simp only[J8]at a;obtain⟨q,hq,J,u,a⟩:=a;split at a;rotate_left
 .cases a
 rename_i pv;cases a;obtain⟨ky',elem',S,gz⟩:=hE.kt T K wa;rw[Q]at S;cases S;obtain⟨rfl,n9⟩:=b1n hq hi;cases hm with
 |omp b=>
  obtain⟨bl,e,ba⟩:=d.blk _ _ b;rw[R]at e;cases e;obtain⟨r,g,e1,U,L,V⟩:=ba;cases e1;obtain⟨fu,nh⟩:=hx.cells u;have z:n=IC t n.cells.toList:=by
   cases hx with
   |agg vs L V=>
    have:t=true:=G.symm;subst this;simp[IC,Value.cells]
   |con=>
    have:t=false:=G.symm;subst this;simp only[SV.cells]at u;split at u
    .rename_i h1;cases n<;>first|rfl|simp[Value.oneCell']at h1
    .cases u
   |tup=>simp[SV.cells]at u
   |any=>simp[SV.cells]at u
   |fp h=>
    have:t=false:=G.symm;subst this;split at h
    .exact Cj
    .subst h;rfl
   |_=>
    have:t=false:=G.symm;subst this;rfl
  obtain⟨o,bp,wc⟩:=b33 (w:=w) z Q gz U n9;have b6:=U.lt;have H:Keeps w (ND w r o) (held A μ) (held A μ) μ μ:=⟨Fq,λc _ l=>TI (λe=>l (by subst e;exact .inr ⟨k,_,b,.inl rfl⟩)),λ_ _ h=>h,λ_ _ h=>h⟩
  have hB:=(d.rng k _ r b (.inl rfl)).2.2;refine⟨_,bp,⟨⟨λj y B=> ?_,d.inj,λj y c B hy=>by rw[Wd];exact d.rng j y c B hy,λc l=>by rw[Wd];exact d.bnd c l⟩,
   ⟨rfl,rfl,rfl,λ_=>J9 _,Fq,λi hi hX=>TI (λe=>by subst e;rcases hB with W|W;omega;exact hX W)⟩,H⟩,Dx⟩
  have bc:k<own.length:=(J4.1 R).1;by_cases e:j=k
  .subst e;have:y=.map (some r):=by rw[b]at B;exact(K6 B).symm
   subst this;refine⟨.map K t (KA f q) (λp=>DC (decide (p=q)) J (val p)),by simp[bc],r,λp=>if p=q then n.cells.toList else g p,rfl,wc,λp hp=> ?_,λp i s v hp hs z=> ?_⟩
   .obtain⟨Y,C,_⟩:=YU (decide (p=q)) J (val p);simp only[Jb]at Y C;rw[Y];by_cases ep:p=q
    .simp only[ep,Ke];rw[ep]at C;simp only[Ke]at C;exact⟨fu,C pv⟩
    .have I:f p=true:=Gx;simp only[ep,if_false];simp only[ep,if_false]at C;exact⟨(L p I).1,C (L p I).2⟩
   .obtain⟨Z,F,w4⟩:=(YU (decide (p=q)) J (val p)).2.2 i s hs;simp only[Jb]at F;refine w4 ?_;by_cases ep:p=q
    .simp only[ep,Ke]at F z;exact(nh i Z v F z).keep H
    .have I:f p=true:=Gx;simp only[ep,if_false]at F z;exact(V p i Z v I F z).keep H
  .obtain⟨M,e0,qg⟩:=d.blk j y B;refine⟨M,by rw[Jh (Ne.symm e)];exact e0,qg.keep H (λc l=>TI (λec=> ?_))⟩;subst ec;exact e (d.inj j k y _ c B b l (.inl rfl))
theorem b8i(hE:EnvOK E)(hC:GR E)(h:SD E B0 X A w0 nt st a w μ){ops:Array Oper}{o:Oper}{F:Prop}{st':St}(f:f0y E nt ops st o=some (F,st'))(J:F)
 {K:Act->World->Prop} {Q:Exit->Act->World->Prop} (hK:∀a' w' l,SD E B0 X A w0 nt st' a' w' l->K a' w'):
 if Region.wanted o (yielded ops a.tmps)then o.wp E.P a w K Q else K (a.put o.dst undef) w:=by
 unfold f0y at f;split at f
 .cases f
 rename_i gb;have O:JS nt o.dst=true:=by simpa using gb
 split at f
 .rename_i j p kq;split at f;rotate_left
  .cases f
  rename_i d g pz Pe;split at f;rotate_left
  .cases f
  rename_i b6;obtain⟨b6,b9⟩:=b6;simp only[J8,Ic]at f;obtain⟨c,hc,⟨W,s⟩,hs,rfl,rfl⟩:=f;have Y:d<a.tmps.size:=by rw[h.size];simpa[JS,pz]using O
  have hw:=b83 (a:=a) kq Pe (by rw[h.size];exact b6);split
  .rename_i dq;have R:=hw.1 dq;have ge:=b08 h.env 5 g p c hc R;refine b8a hE hC h (g:=some (g,p)) (λq b e=>by cases e;exact R) hs (J ge) (λv w' H C=>hK _ w' μ ?_);have hO:=h.own.calls C;have hk:Keeps w w' (held A μ) (held A μ) μ μ:=C.keeps;rw[pz];refine⟨hO,h.fr.trans ⟨C.os,C.tape,C.output,C.drawn,C.size,λi hi _=>C.block i (K0 hi h.base) (λh=>h)⟩,Kq h.base C.size,NH hk h.glo,h.dfr,by simp[Act.put,h.size],?_,h.fresh,h.anc⟩;refine(h.env.keep hk).put Y (λq b e=>by cases e;exact b9) ?_;unfold CZ;simp only;rw[NJ Y,NJ Y,Iz rfl,J3 b9];exact⟨λ_=>H,λZ=>absurd R Z⟩
  .rename_i dq;have R:¬a.tmps.getD g undef=.bool p:=λR=>dq (hw.2 R);refine hK _ w μ ?_;rw[pz];refine⟨h.own,h.fr,h.base,h.glo,h.dfr,by simp[Act.put,h.size],?_,h.fresh,h.anc⟩;refine h.env.put Y (λq b e=>by cases e;exact b9) ?_;unfold CZ;simp only;rw[NJ Y,NJ Y,Iz rfl,J3 b9];exact⟨λhh=>absurd hh R,λ_=>rfl⟩
 .rename_i kq;rw[Iz Ev];have t:=h.opds (g:=none) (λq b e=>E3);have M:∀{s:SV} {F:Prop},Rc E st none o.op=some (F,s)->F->(∀a' w' l,SD E B0 X A w0 nt {st with ρ:=KO o.dst none s st.ρ} a' w' l->K a' w')->o.wp E.P a w K Q:=by
   intro s F hs J hK;refine b8a hE hC h (g:=none) (λq b e=>E3) hs J (λv w' H C=>hK _ w' μ ?_);have hk:Keeps w w' (held A μ) (held A μ) μ μ:=C.keeps;exact h.put (h.own.calls C) ⟨C.os,C.tape,C.output,C.drawn,C.size,λi hi _=>C.block i (K0 hi h.base) (λh=>h)⟩ (NH hk h.glo) (h.env.keep hk) h.fresh h.anc O H
  have L:∀{r:Value} {w':World},(execOp a.eval o).run E.P w=.ok (.value r) w'->K (a.put o.dst r) w'->o.wp E.P a w K Q:=by intro r w' G hk;unfold Oper.wp;rw[G];exact hk
  split at f
  .rename_i T p x I;simp only[J8]at f;obtain⟨sp,qi,sx,S,⟨W,own'⟩,N,f⟩:=f;split at f;rotate_left
   .cases f
   rename_i nj;simp only[Id]at f;obtain⟨rfl,rfl⟩:=f;obtain⟨w',G,ha⟩:=b5u h.own (t _ _ qi) (t _ _ S) N J;have V:(execOp a.eval o).run E.P w=.ok .skip w':=by simp[execOp,I,G]
   unfold Oper.wp;rw[V];show K (a.put o.dst undef) w';rw[nj];have bc:own'.length=st.own.length:=by
    unfold Ta at N;simp only[Im]at N;obtain⟨n,Z,us,ke,N⟩:=N;repeat' split at N
    all_goals first|(cases N;simp;done)|cases N
   exact D8
  iterate 4
   .rename_i I;simp only[Ic]at f;obtain⟨⟨W,s,b⟩,Z,rfl,rfl⟩:=f;obtain⟨r,w',l,G,ha,u,H⟩:=b6v (h.own.more (own':=st.own++[b]) WG) h.base (h.fresh _ (J9 _)) t Z J Dx;refine L G (hK _ w' l ?_);refine h.put ha.own ha.fr (NH ha.keeps h.glo) (h.env.keep ha.keeps) (λk hk=> ?_) (λj x hx=>ha.keeps.own _ _ (h.anc j x hx)) O H;simp only[Ip]at hk;rw[u k Dv];exact h.fresh k Dv
  .rename_i T r I;simp only[Ic]at f;obtain⟨b,Z,rfl,rfl⟩:=f;obtain⟨r,w',l,G,ha,u,H⟩:=b1y hE (h.own.more (own':=st.own++[b]) WG) h.base (h.fresh _ (J9 _)) t I Z Dx;refine L G (hK _ w' l ?_);refine h.put ha.own ha.fr (NH ha.keeps h.glo) (h.env.keep ha.keeps) (λk hk=> ?_) (λj x hx=>ha.keeps.own _ _ (h.anc j x hx)) O H;simp only[Ip]at hk;rw[u k Dv];exact h.fresh k Dv
  iterate 2
   .rename_i T m k x I;simp only[J8]at f;obtain⟨sm,pb,sk,fq,sx,S,own',Q0,f⟩:=f;split at f;rotate_left
    .cases f
    rename_i nj;simp only[Id]at f;obtain⟨rfl,rfl⟩:=f;obtain⟨w',G,ha,bc⟩:=c0a hE h.own (t _ _ pb) (t _ _ fq) (t _ _ S) Q0;have V:(execOp a.eval o).run E.P w=.ok .skip w':=by simp[execOp,I,G]
    unfold Oper.wp;rw[V];show K (a.put o.dst undef) w';rw[nj];exact D8
  .rename_i x y T U I;split at f;rotate_left
   .cases f
   rename_i Z6;subst Z6;simp only[J8]at f;obtain⟨sx,S,sy,Z7,⟨W,k,own',new⟩,B,f⟩:=f;split at f
   .cases f
   rename_i rb;simp only[Id]at f;obtain⟨rfl,rfl⟩:=f;obtain⟨r,w',l,G,H,hafter⟩:=c26 (ty:=o.type) h.own h.base (h.fresh _ (J9 _)) (t _ _ S) (t _ _ Z7) B J;have V:(execOp a.eval o).run E.P w=.ok (.value r) w':=by simp only[execOp,I,resolve,Ie,invoke,builtin];rw[show (⟨[x,y]⟩:Array Operand).map a.eval= #[a.eval x,a.eval y]from Dx,G];simp
   have bc:new=true/\own'.length=st.own.length+1\/new=false/\own'.length=st.own.length/\k<st.own.length:=by
    simp only[TP,J8]at B;obtain⟨e,_,inf,_,z,_,mg,_,B⟩:=B;split at B;rotate_left
    .cases B
    unfold b4v at B;split at B
    .cases B;exact .inl ⟨rfl,Dx⟩
    .split at B
     .simp only[Id]at B;obtain⟨_,rfl,rfl,rfl⟩:=B;exact .inl ⟨rfl,Dx⟩
     .cases B
    .split at B
     .rename_i hk;split at B
      .cases B;exact .inr ⟨rfl,Dx,(J4.1 hk).1⟩
      .cases B
     .cases B
    .cases B
   refine L V (hK _ w' l ?_);rcases hafter with⟨rfl,ha,u⟩|⟨rfl,ha,u⟩
   .refine h.put ha.own ha.fr (NH ha.keeps h.glo) (h.env.keep ha.keeps) (λj hj=> ?_) (λj x hx=>ha.keeps.own _ _ (h.anc j x hx)) O H;rcases bc with⟨_,hl⟩|⟨hf,_⟩
    .rw[u j Dv];exact C7
    .cases hf
   .have ra:∀j x,E.an j=some x->j=k->False:=λj x hx e=>rb (by subst e;simp[Env.an_ak hx]);refine h.put ha.own ha.fr (b1s ha.keeps h.glo) (h.env.change ha.keeps) (λj hj=> ?_) (λj x hx=>ha.keeps.own _ _ (λe=>ra j x hx Fc) (h.anc j x hx)) O H;rcases bc with⟨hf,_⟩|⟨_,hl,gz⟩
    .cases hf
    .rw[u j Dv];exact C7
  .rename_i T x lo hi I;split at f
   .rename_i k S;simp only[J8]at f;obtain⟨⟨W,own'⟩,hrs,f⟩:=f;split at f
    .cases f
    rename_i rb;simp only[Id]at f;obtain⟨rfl,rfl⟩:=f;have opt:∀y:Option Operand,DO w (held A μ) μ (PX (CK E st.ρ none) y) (y.map a.eval):=by
     intro y;cases y with
     |none=>simp[DO,PX]
     |some y=>
      simp only[PX,Kb];cases hy:CK E st.ρ none y with
      |none=>simp[DO]
      |some s=>simpa[DO]using t _ _ hy
    obtain⟨r,l,G,H,ha,bc,hk,u⟩:=c0n h.own h.base (t _ _ S) (opt lo) (opt hi) hrs J;have V:(execOp a.eval o).run E.P w=.ok (.value r) w:=by simp[execOp,I,G]
    have ra:∀j x,E.an j=some x->j=k->False:=λj x hx e=>rb (by subst e;simp[Env.an_ak hx]);refine L V (hK _ w l ?_);refine h.put ha.own ha.fr (b1s ha.keeps h.glo) (h.env.change ha.keeps) (λj hj=> ?_) (λj x hx=>ha.keeps.own _ _ (λe=>ra j x hx Fc) (h.anc j x hx)) O H;rw[bc]at hj;rw[u j Dv];exact C7
   .simp only[Ic]at f;obtain⟨⟨W,s⟩,hs,rfl,rfl⟩:=f;rw[<-I]at hs;exact M hs J hK
  .simp only[Ic]at f;obtain⟨⟨W,s⟩,hs,rfl,rfl⟩:=f;exact M hs J hK
end
end Go.Proofs.YtaihldljnlgnoaaGreatDoor.V
