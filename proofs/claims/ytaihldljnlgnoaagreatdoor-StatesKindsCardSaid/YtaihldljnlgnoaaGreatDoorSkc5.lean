/-
  Parts of the proof: V18 V19 R1 V20 M2 S1 S2 R2. Conditions: none.
-/
import Derived.Test.YtaihldljnlgnoaaGreatDoorSkc4
import Derived.ProofKit
import Derived.LaidMore
import Derived.LaidHandle
import Derived.OpenShut
import Derived.Carry
import Derived.Stop.Joined
import Derived.WideKeyRuns
import Derived.Test.YtaihldljnlgnoaaGreatDoorRows
import Derived.Test.YtaihldljnlgnoaaGreatDoorChecked
set_option maxRecDepth 100000
set_option maxHeartbeats 40000000
namespace Go.Proofs.YtaihldljnlgnoaaGreatDoor.V
open Go
def BT:List SV->List SV->Prop
 | [],[]=>True
 |s::r,t::q=>s.le2 t/\BT r q
 |_,_=>False
theorem b40:∀{cs a:List SV},BT cs a->cs.length=a.length/\∀(i:Nat) (t:SV),a[i]?=some t->∃s,cs[i]?=some s/\s.le2 t
 | [],[],_=>⟨rfl,λi t h=>E8⟩
 |s::r,t::q,h=>by
  obtain⟨h1,b⟩:=b40 h.2;refine⟨Ep,λi c ht=> ?_⟩;match i with
  |0=>simp at ht;subst ht;exact⟨s,rfl,h.1⟩
  |i+1=>simpa using b i c Fc
 | [],_::_,h=>h.elim
 |_::_,[],h=>h.elim
def MG(n:Nat):List SV->List Entry
 | []=>[]
 |s::r=>⟨n,none,s⟩::MG (n+1) r
theorem b5h{t:Nat}{e:Entry}:∀(l:List SV) (n:Nat),CK t (MG n l)=some e->e.guard=none/\n<=t/\l[t-n]?=some e.sv:=by
 intro l;induction l with
 |nil=>intro n h;simp[MG,CK]at h
 |cons s r a=>
  intro n h;simp only[MG,CK]at h;split at h
  .rename_i b;cases h;subst b;exact⟨rfl,Jf _,Dz⟩
  .obtain⟨c,h2,d⟩:=a (n+1) h;refine⟨c,Dx,?_⟩;rw[show t-n=(t-(n+1))+1 from Dx];simpa using d
def UI(E:Env)(st:St):ResultVar->Option SV
 |.tmp t=>(CM E st.ρ none (.tmp t)).bind (SV.roA st.own)
 |.cell t T=>(CM E st.ρ none (.tmp t)).bind λp=>match p with
  |.own k o=>(Ty E.P st.own T (.own k o)).bind λr=>r.2.roA st.own
  |_=>none
def d9i(E:Env)(a:Func)(st:St):Option SV:=match a.results.toList with
 | [r]=>UI E st r
 |b=>(b.mapM (UI E st)).map .tup
def NB(E:Env)(a:Func)(s:SV)(st:St):Prop:=match d9i E a st with
 |some r=>r.le2 s
 |none=>False
structure Fam where
 ι:Type
 args:ι->List SV
 pre:ι->Prop
 res:ι->SV
def RI(F:Fam)(k:List SV->Option (Prop×SV)):Prop:=∀a p s,k a=some (p,s)->p->∃i,BT a (F.args i)/\F.pre i/\s=F.res i
section
variable{E:Env}
def RG(tmps:Array Value):ResultVar->Sem Value
 |.tmp t=>pure (tmps.getD t undef)
 |.cell a t=>do loadVar t (<-asAddr (tmps.getD a undef))
theorem b3m(c:Func)(tmps:Array Value):results c tmps=(do let b<-c.results.mapM (RG tmps);pure (if h:b.size=1 then b[0]else .tuple b)):=by
 unfold results;have:RG tmps=λ(r:ResultVar)=>(match r with
  |.tmp t=>pure (tmps.getD t undef)
  |.cell a t=>do loadVar t (<-asAddr (tmps.getD a undef)):Sem Value):=by
  funext r;cases r<;>rfl
 rw[this];rfl
variable{B0:Nat}{X A:Nat->Prop}{w0:World}{nt:Nat}{st:St}{a:Act}{w:World}{μ:Mu}
theorem b7k(h:SD E B0 X A w0 nt st a w μ){r:ResultVar}{s:SV}(c:UI E st r=some s):∃v,(RG a.tmps r).run E.P w=.ok v w/\D w A BN s v:=by
 have d:=h.opds (g:=none) (λq b e=>E5);have ro:∀{s t:SV} {v:Value},D w (held A μ) μ s v->s.roA st.own=some t->D w A BN t v:=λf m=>Wd h.own (λ_ _ h=>h) (λ_ h=>.inl h) f m (λ_ _ h=>h);cases r with
 |tmp t=>
  simp only[UI,Jd]at c;obtain⟨x,y,c⟩:=c;exact⟨_,rfl,ro (d _ _ y) c⟩
 |cell t T=>
  simp only[UI,Jd]at c;obtain⟨p,z,c⟩:=c;split at c
  .rename_i k o;simp only[Jd]at c;obtain⟨⟨q,x⟩,i,c⟩:=c;have B:q:=by
    simp only[Ty,Is,Ii]at i;obtain⟨n,_,cs,_,s',_,rfl,_⟩:=i;exact Ja
   have j:=d _ _ z;obtain⟨u,l,f⟩:=b3h h.own (λ_ _ h=>h) j i B;refine⟨u,?_,ro f c⟩;generalize C:a.eval (.tmp t)=v at j l;have F:a.tmps.getD t undef=v:=C;cases j with
   |own hk=>
    simp only[RG,F,asAddr,Ij];simpa[Instr.loadAt,Instr.sureAddr]using l
  .cases c
theorem c4d(h:SD E B0 X A w0 nt st a w μ):∀(l:List ResultVar) (b:List SV),l.mapM (UI E st)=some b->∃c,(l.mapM (RG a.tmps)).run E.P w=.ok c w/\DL w A BN b c:=by
 intro l;induction l with
 |nil=>intro b h;simp at h;subst h;exact⟨[],Dz,rfl,λi s v h=>E8⟩
 |cons r l g=>
  intro b hs;simp only[M7,Is,Option.pure_def,K0]at hs;obtain⟨s1,j,d,k,rfl⟩:=hs;obtain⟨v,hv,m⟩:=b7k h j;obtain⟨c,wk,f⟩:=g d k;refine⟨v::c,Hy,by simp[f.1],λi s n hs e=> ?_⟩;match i with
  |0=>simp at hs e;subst hs e;exact m
  |i+1=>exact f.2 i s n Fs (by simpa using e)
theorem b53(h:SD E B0 X A w0 nt st a w μ){c:Func}{s:SV}(b:d9i E c st=some s):∃v,(results c a.tmps).run E.P w=.ok v w/\D w A BN s v:=by
 rw[b3m,L4,Array.mapM_eq_mapM_toList,Sem.run_map];unfold d9i at b;split at b
 .rename_i r g;obtain⟨v,i,j⟩:=b7k h b;refine⟨v,?_,j⟩;rw[g,M7,L4,i];simp
 .rename_i rs k;simp only[Jc]at b;obtain⟨l,f,rfl⟩:=b;obtain⟨d,m,e⟩:=c4d h _ l f;refine⟨.tuple d.toArray,?_,.tup d e.1 e.2⟩;rw[m];obtain⟨n,_⟩:=OE f;have o:d.length≠1:=by
   rw[e.1,n];intro p;match hl:c.results.toList,p with
   | [r],_=>exact k r hl
  simp[o]
theorem verify{P:Program}{glob:Nat->Option SV}{f:FuncId}{fn:Func}{code:Code}(E:Env)(Q2:E.P=P)(Q3:E.glob=glob)(S2:E.na=0)(hE:EnvOK E)(hC:GI E)(hm:P.follows .mixedOrders=true)(hf:P.funcs[f]?=some fn)(hb:fn.body=some code)(hn:(fn.name== "runtime.NumGoroutine")=false)
 (F:Fam) (I:F.ι->Nat->Option Inv) (k:List SV->Option (Prop×SV)) (hk:RI F k) (ba:∀i,(F.args i).length<=fn.ntmps) (fj:JF E.c2 (PU E.gr) code=true)
 (H:∀i,F.pre i->EZ E fn.ntmps (I i) code ⟨NB E fn (F.res i),λ_ _=>False,NB E fn (F.res i)⟩ ⟨MG 0 (F.args i),[]⟩):c8c P glob f k:=by
 subst Q2 Q3;refine⟨⟨fn,hf,hn,by rw[hb];rfl⟩,λA w args vals pre s hA hg hD hr hp=> ?_⟩;obtain⟨i,bi,dg,rfl⟩:=hk args pre s hr hp;obtain⟨l1,l2⟩:=b40 bi;have t7:vals.length<=fn.ntmps:=H6;refine calls_of_wp hf hb ?_;have hS:SD E w.heap.size (λ_=>False) A w fn.ntmps ⟨MG 0 (F.args i),[]⟩ {tmps:=vals.toArray++Array.replicate (fn.ntmps-vals.toArray.size) undef,defers:=[]} w BN:=by
  refine⟨⟨λk x h=>E9,λk k' x x' b h=>E9,λk x b h=>E9,hA⟩,Fr.refl _ _ _,Jf _,λg s s8=>⟨(hg g s s8).1,?_⟩,rfl,E7,λt e he=> ?_,λ_ _=>rfl,λk x hx=>Hz⟩
  .exact Dg
  .obtain⟨h1,_,h3⟩:=b5h _ _ he;unfold CZ;rw[h1];simp only;rw[MJ he];have b6:t<(F.args i).length:=(J9.1 h3).1;obtain⟨s0,bz,rf⟩:=l2 t e.sv Gi;have tj:t<vals.length:=H7;have hd:=hD.2 t s0 vals[t] bz (J6 tj);have dw:(vals.toArray++Array.replicate (fn.ntmps-vals.toArray.size) undef).getD t undef=vals[t]:=by
    simp[Array.getElem?_append,tj]
   rw[dw];have:=Qu hd rf;exact Dh
 refine b6c hE hC hm code (I i) ⟨NB E fn (F.res i),λ_ _=>False,NB E fn (F.res i)⟩ _ _ _ w BN fj hS ⟨λst a w' μ hs hr=> ?_,λi st a w' μ hs hr=>hr.elim,λst a w' μ hs hr=> ?_⟩ (H i dg);all_goals
  replace hr:NB E fn (F.res i) st:=hr;unfold NB at hr;split at hr
  .rename_i r g9;obtain⟨v,hv,hd⟩:=b53 hs g9;exact⟨hs.dfr,v,hv,v,rfl,Qu hd hr,hs.fr⟩
  .exact hr.elim
def d0z(st:St):SV->Prop
 |.osl k=>match st.own[k]? with
  |some (.row _ _ n f _)=>∀i,i<n->(f i).all SV.flat0=true
  |_=>False
 |.sl _ n _ _=>n=0
 |s=>if s.flat0 then True else False
def SX(E:Env)(a:Func)(s:SV)(st:St):Prop:=match a.results.toList with
 | [.tmp t]=>match CM E st.ρ none (.tmp t)with
   |some b=>d0z st b/\NB E a s st
   |none=>False
 |_=>False
theorem d1g{w:World}{H:Nat->Prop}{μ:Mu}{x:Value}{T:TypeId}{sz n:Nat}{f:Nat->List SV}{c:Option Nat}{B:Nat}(hx:∀b,CN x b->¬b<B)(l:∀i,i<n->(f i).all SV.flat0=true)(h:DI w H μ x (.row T sz n f c)):D w (λb=>b<B) BN (.sl sz n f c) x:=by
 obtain⟨a,m,rfl,hn,hm,hc,hl,q⟩:=h;rcases q with rfl|⟨b,o,e,r,rfl,g,ho,h1,t⟩
 .exact Cn
 .have u:=hx b (Jl r);have k:∀i j,i<n->j<sz->o+i*sz+j<e.length:=λi j hi d=>by
   have:=LZ hi d;have:n*sz<=m*sz:=Km _ hn;omega
  refine .sl _ b o m (λi j=>e.getD (o+i*sz+j) undef) hn hm hc (λ_=>⟨rfl,u,PQ g,λi j hi d=> ?_⟩) hl (λi j s hi hs=> ?_)
  .have:=k i j hi d;rw[SI g,J6 this];simp only[It,J6 this];exact Cp
  .have d:j<sz:=G8;have:=k i j hi d;simp only[It,J6 this];exact Wq (Je.1 (l i hi) s (Jb hs)) (t i j s _ hi hs (J6 this))
theorem c4g(h:SD E B0 (λ_=>False) A w0 nt st a w μ){s t:SV}{v:Value}(q:D w (held A μ) μ s v)(l:s.roA st.own=some t)(d:d0z st s):D w (λb=>b<B0) BN t v:=by
 unfold d0z at d;split at d
 .rename_i k;split at d
  .rename_i T y n f c u;simp only[SV.roA,SV.ro,SV.ro1,u,K0]at l;subst l;cases q with
   |osl p=>
   obtain⟨bl,e,z⟩:=h.own.blk _ _ p;rw[u]at e;cases e;refine d1g (λb B b6=> ?_) d z;rcases(h.own.rng _ _ b p B).2.2 with x|x
   .omega
   .exact x
  .exact d.elim
 .rename_i y n f c;subst d;simp only[SV.roA,SV.ro,SV.ro1,K0]at l;subst l;cases q with
  |sl a b o m g C hx F b7 G hD=>exact .sl a b o m g C hx F (λh=>absurd h (Lz _)) G (λi j s H=>absurd H (Jv _))
 .split at d
  .rename_i r;have r:s.flat0=true:=r;have I:D w A BN t v:=Wd h.own (λ_ _ h=>h) (λ_ h=>.inl h) q l (λ_ _ h=>h);have:t.flat0=true:=by
    revert l r;cases s<;>simp_all[SV.flat0,SV.roA,SV.ro,SV.ro1]
    all_goals(intros;subst_vars;simp_all[])
   exact Wq this I
  .exact d.elim
theorem f77{P:Program}{glob:Nat->Option SV}{f:FuncId}{fn:Func}{code:Code}(E:Env)(Q2:E.P=P)(Q3:E.glob=glob)(S2:E.na=0)(hE:EnvOK E)(hC:GI E)(hm:P.follows .mixedOrders=true)(hf:P.funcs[f]?=some fn)(hb:fn.body=some code)(hn:(fn.name== "runtime.NumGoroutine")=false)
 (F:Fam) (I:F.ι->Nat->Option Inv) (k:List SV->Option (Prop×SV)) (hk:RI F k) (ba:∀i,(F.args i).length<=fn.ntmps) (fj:JF E.c2 (PU E.gr) code=true)
 (H:∀i,F.pre i->EZ E fn.ntmps (I i) code ⟨SX E fn (F.res i),λ_ _=>False,SX E fn (F.res i)⟩ ⟨MG 0 (F.args i),[]⟩):c8c P glob f k/\c7y P glob f k:=by
 subst Q2 Q3;refine⟨⟨⟨fn,hf,hn,by rw[hb];rfl⟩,?_⟩,?_⟩;all_goals
  intro A w args vals pre s hA hg hD hr hp;obtain⟨i,bi,dg,rfl⟩:=hk args pre s hr hp;obtain⟨l1,l2⟩:=b40 bi;have t7:vals.length<=fn.ntmps:=H6;refine calls_of_wp hf hb ?_;have hS:SD E w.heap.size (λ_=>False) A w fn.ntmps ⟨MG 0 (F.args i),[]⟩ {tmps:=vals.toArray++Array.replicate (fn.ntmps-vals.toArray.size) undef,defers:=[]} w BN:=by
   refine⟨⟨λk x h=>E9,λk k' x x' b h=>E9,λk x b h=>E9,hA⟩,Fr.refl _ _ _,Jf _,λg s s8=>⟨(hg g s s8).1,?_⟩,rfl,E7,λt e he=> ?_,λ_ _=>rfl,λk x hx=>Hz⟩
   .exact Dg
   .obtain⟨h1,_,h3⟩:=b5h _ _ he;unfold CZ;rw[h1];simp only;rw[MJ he];have b6:t<(F.args i).length:=(J9.1 h3).1;obtain⟨s0,bz,rf⟩:=l2 t e.sv Gi;have tj:t<vals.length:=H7;have hd:=hD.2 t s0 vals[t] bz (J6 tj);have dw:(vals.toArray++Array.replicate (fn.ntmps-vals.toArray.size) undef).getD t undef=vals[t]:=by
     simp[Array.getElem?_append,tj]
    rw[dw];have:=Qu hd rf;exact Dh
  refine b6c hE hC hm code (I i) ⟨SX E fn (F.res i),λ_ _=>False,SX E fn (F.res i)⟩ _ _ _ w BN fj hS ⟨λst a w' μ hs hr=> ?_,λi st a w' μ hs hr=>hr.elim,λst a w' μ hs hr=> ?_⟩ (H i dg);all_goals
   replace hr:SX E fn (F.res i) st:=hr;unfold SX at hr;split at hr;rotate_left
   .exact hr.elim
   rename_i t T9;split at hr;rotate_left
   .exact hr.elim
   rename_i s0 bz;obtain⟨bj,hr⟩:=hr;unfold NB at hr;split at hr
   .rename_i r g9;obtain⟨v,hv,hd⟩:=b53 hs g9;first
     |exact⟨hs.dfr,v,hv,v,rfl,Qu hd hr,hs.fr⟩
     |(refine⟨hs.dfr,v,hv,v,rfl,?_,hs.fr⟩
       have jv:=hs.opds (g:=none) (λq b e=>E5) _ _ bz;unfold d9i at g9;rw[T9]at g9;simp only[UI,bz,Lw]at g9;have su:a.eval (.tmp t)=v:=by rw[b3m,L4,Array.mapM_eq_mapM_toList,Sem.run_map,T9]at hv;simp[RG]at hv;show a.tmps.getD t undef=v;rw[<-hv];simp
       rw[su]at jv;exact Qu (c4g hs jv g9 bj) hr)
   .exact hr.elim
end
section
variable{H:Type}{enc:TypeId × Value->H}{P:Program}{w:World}{base:Nat}{sp:Nat->Bool}{held:Bool}{fuel:Nat}{t:TypeId}{cs:List Value}{x:DataW H × List MemPlace}
theorem b6b{k:IntKind}{n:Int}(h:(Lit.int k n).wf=true):AD k n:=by simp only[Lit.wf,Ip]at h;cases k<;>simp[IntKind.min,IntKind.max,IntKind.bits,IntKind.signed]at h<;>simp only[AD]<;>omega
theorem XF{k:IntKind}(a:P.underlying t=some (.int k))(h:DataW.trod enc P w base sp held fuel t cs=some x):∃n,cs=[.int k n]/\AD k n:=by obtain⟨n,e,_,b⟩:=DataW.trod_int a h;exact⟨n,e,b6b b⟩
theorem d5u{fs:Array Field}(a:P.underlying t=some (.struct fs))(h:DataW.trod enc P w base sp held fuel t cs=some x):
 cs.length=P.cellsOf t/\∀f∈fs.toList,∃m y,DataW.trod enc P w base sp held m f.type ((cs.drop f.offset).take (P.cellsOf f.type))=some y:=by
 obtain⟨b,m,rfl,_,c,ph,hx⟩:=DataW.trod_struct a h;refine⟨c,λf d=> ?_⟩;obtain⟨i,hi,e⟩:=K7.1 d;have g:i<fs.size:=Eu;have:=hx i f (by rw[Md g,<-e];simp);refine⟨m,b[i]'Dx,?_⟩;rw[this,J6 Dx]
theorem c8f(b o i:Nat):(⟨b,o,none⟩:Addr).add i=⟨b,o+i,none⟩:=by
 unfold Addr.add;split
 .rename_i h;subst h;rfl
 .rfl
theorem rd_sl{α:Type}(d0:α)(d:α->List SV)(ok:α->Prop){e:TypeId}{sz:Nat}(M:P.underlying t=some (.slice e))(N:P.cellsOf e=sz)(I:0<sz){A:Nat->Prop}(O:∀b,¬A b)
 (S:∀m R y,DataW.trod enc P w base sp held m e R=some y->∃q,ok q/\(d q).length=sz/\(d q).all SV.pure=true/\(∀v∈R,v.oneCell'=true)/\∀(j:Nat) (s:SV) (v:Value),(d q)[j]?=some s->R[j]?=some v->D w A BN s v)
 (h:DataW.trod enc P w base sp held fuel t cs=some x):
 ∃(l:List α) (v:Value),cs=[v]/\v.oneCell'=true/\D w A BN (.sl sz l.length (λi=>d (l.getD i d0)) none) v/\∀q∈l,ok q:=by
 rcases DataW.trod_slice M h with⟨rfl,_⟩|⟨a,len,g,elems,rest,m,rfl,rfl,_,hb,C,U,S4,V,_,_⟩
 .exact⟨[],_,rfl,rfl,.sl none 0 0 0 (λ_ _=>undef) (Jf _) (Jj _) (.inl rfl) (λh=>absurd h Dz) (λi f=>absurd f Dz) (λi j s f=>absurd f Dz),λq u=>by cases u⟩
 .have k:∀i,i<len->∃(R:List Value) (q:α),(R.length=sz/\∀j,j<sz->w.cell? ((a.add (i*sz)).add j)=R[j]?)/\ok q/\(d q).length=sz/\(d q).all SV.pure=true/\(∀v∈R,v.oneCell'=true)/\∀(j:Nat) (s:SV) (v:Value),(d q)[j]?=some s->R[j]?=some v->D w A BN s v:=by
   intro i f;have:=V i f;rw[N,J6 Dx]at this;rw[Jd]at this;obtain⟨R,W,X⟩:=this;obtain⟨_,Y,Z⟩:=World.cells?_some W;obtain⟨q,u⟩:=S m R _ X;exact⟨R,q,⟨Y,Z⟩,u⟩
  let G:Nat->List Value:=λi=>if f:i<len then(k i f).choose else []
  let Q:Nat->α:=λi=>if f:i<len then(k i f).choose_spec.choose else d0
  have n:∀i,i<len->((G i).length=sz/\∀j,j<sz->w.cell? ((a.add (i*sz)).add j)=(G i)[j]?)/\ok (Q i)/\(d (Q i)).length=sz/\(d (Q i)).all SV.pure=true/\(∀v∈G i,v.oneCell'=true)/\∀(j:Nat) (s:SV) (v:Value),(d (Q i))[j]?=some s->(G i)[j]?=some v->D w A BN s v:=by intro i f;simp only[G,Q,f,dif_pos];exact(k i f).choose_spec.choose_spec
  have J:∀i,i<len->((List.range len).map Q).getD i d0=Q i:=λi f=>by simp[f]
  have ba:((List.range len).map Q).length=len:=Dz;have z:0<len->∃b o,a=⟨b,o,none⟩:=by
   intro r;obtain⟨⟨g1,E⟩,_⟩:=n 0 r;have:=E 0 I;rw[J6 Dx]at this;have hs:=World.cell?_spot this;obtain⟨b,o,s⟩:=a;have:s=none:=by simpa[Addr.add]using hs
   exact⟨b,o,by rw[this]⟩
  have K:∀b o,a=⟨b,o,none⟩->∀i j,i<len->j<sz->w.cell? ⟨b,o+i*sz+j,none⟩=some ((G i).getD j undef):=by rintro b o rfl i j f B;obtain⟨⟨g1,E⟩,_⟩:=n i f;have:=E j B;rw[J6 Dx]at this;rw[c8f,c8f]at this;rw[J5,J6 Dx,this];rfl
  have L:∀(b o:Nat),(0<len->a=⟨b,o,none⟩)->D w A BN (.sl sz ((List.range len).map Q).length (λi=>d (((List.range len).map Q).getD i d0)) none) (.slice (some a) len g):=by
   intro b o F;rw[ba];refine .sl (some a) b o g (λi j=>(G i).getD j undef) C U (.inl rfl) (λr=> ?_) (λi f=> ?_) (λi j s f hs=> ?_)
   .have H:=F r;refine⟨by rw[H],O b,?_,λi j f B=>⟨K b o H i j f B,?_⟩⟩
    .have:=K b o H 0 0 r I;unfold World.cell? at this;split at this
     .rename_i c T fz hc;exact(Kk.1 hc).1
     .cases this
    .obtain⟨⟨g1,_⟩,_,_,_,g5,_⟩:=n i f;show ((G i).getD j undef).oneCell'=true;rw[J5,J6 Dx];exact g5 _ (Kb _)
   .rw[J i f];exact⟨(n i f).2.2.1,(n i f).2.2.2.1⟩
   .rw[J i f]at hs;obtain⟨⟨g1,_⟩,_,g3,_,_,g6⟩:=n i f;have B:j<sz:=by rw[<-g3];exact(J9.1 hs).1
    refine g6 j s _ hs ?_;simp only[J5];rw[J6 Dx];rfl
  refine⟨(List.range len).map Q,.slice (some a) len g,rfl,rfl,?_,λq u=> ?_⟩
  .rcases Ks len with r|r
   .exact L 0 0 (λh=>absurd h Dx)
   .obtain⟨b,o,e⟩:=z r;exact L b o (λ_=>e)
  .obtain⟨i,f,rfl⟩:=Js.1 u;exact(n i (Ka.1 f)).2.1
mutual
def WB:DataW H->List Value
 |.lit (.int k n)=>[.int k n]
 |.lit (.bool b)=>[.bool b]
 |.agg a=>f25 a
 |_=>[]
def f25:List (DataW H)->List Value
 | []=>[]
 |d::r=>WB d++f25 r
end
mutual
def VV:DataW H->Bool
 |.lit (.int _ _)=>true
 |.lit (.bool _)=>true
 |.agg a=>c7w a
 |_=>false
def c7w:List (DataW H)->Bool
 | []=>true
 |d::r=>VV d&&c7w r
end
theorem c09:∀l:List (DataW H),f25 l=(l.map WB).flatten
 | []=>rfl
 |d::r=>by simp[f25,c09 r]
theorem b3e:∀{l:List (DataW H)},c7w l=true->∀d∈l,VV d=true
 | [],_,d,h=>E9
 |x::r,h,d,a=>by
  simp only[c7w,K6]at h;rcases Ji.1 a with rfl|a
  .exact h.1
  .exact b3e h.2 d a
theorem b5u:∀(b:List Nat) (cs:List Value) (a:List (List Value)),a.length=b.length->cs.length=b.sum->(∀(i s:Nat) (y:List Value),b[i]?=some s->a[i]?=some y->(cs.drop (b.take i).sum).take s=y)->cs=a.flatten:=by
 intro b;induction b with
 |nil=>
  intro cs a c hc _;obtain rfl:a=[]:=Lj.1 c;obtain rfl:cs=[]:=Lj.1 Et;rfl
 |cons s b f=>
  intro cs a c hc d;match a,c with
  |y::a,c=>
   have e:=d 0 s y rfl rfl;simp at e;have:=f (cs.drop s) a (by simpa using c) (by simp at hc⊢;omega) (λi g j hs k=>by have:=d (i+1) g j Fs (by simpa using k);simp only[List.take_succ_cons,List.sum_cons]at this;rw[List.drop_drop];exact this)
   rw[List.flatten_cons,<-this,<-e,List.take_append_drop]
theorem f1r{P:Program}{t:TypeId}(h:isVar P t=true):t<P.types.size:=by simp only[isVar,Ip]at h;exact h.1
theorem d0p(a:laidOutB P=true)(h:isVar P t=true):rowFine P t=true:=by simp only[laidOutB,K6]at a;exact Je.1 a.1.1 t (Ka.2 (f1r h))
def Yi(P:Program):Nat->TypeId->Bool
 |0,_=>false
 |n+1,t=>match P.underlying t with
  |some (.int _)|some .bool=>true
  |some (.struct a)=>a.toList.all λf=>Yi P n f.type
  |some (.array _ e)=>Yi P n e
  |_=>false
theorem d1b(J:laidOutB P=true):∀(fuel:Nat) (t:TypeId) (cs:List Value) (x:DataW H×List MemPlace) (n:Nat),Yi P n t=true->isVar P t=true->DataW.trod enc P w base sp held fuel t cs=some x->VV x.1=true->cs=WB x.1:=by
 intro fuel;induction fuel with
 |zero=>intro t cs x n _ _ h;simp[DataW.trod]at h
 |succ m E=>
  intro t cs x n a F h o;match n,a with
  |G+1,a=>
  unfold Yi at a;have c:=d0p J F;unfold rowFine at c;simp only[F,Bool.not_true,Ng]at c;cases hu:P.underlying t with
  |none=>simp[DataW.trod,hu]at h
  |some T=>
   cases T with
   |int k=>
    obtain⟨n,rfl,rfl,_⟩:=DataW.trod_int hu h;rfl
   |bool=>
    obtain⟨b,rfl,rfl⟩:=DataW.trod_bool hu h;rfl
   |struct I=>
    rw[hu]at c;simp only[Iy,Je]at c;obtain⟨⟨q,r⟩,K⟩:=c;obtain⟨L,u,M,rfl,v,A,hx⟩:=DataW.trod_struct hu h;obtain rfl:m=u:=Dx;simp only[VV]at o;have B:=b3e o;simp only[WB,c09,Mq];refine b5u (I.toList.map λf=>P.cellsOf f.type) cs _ (by simp[A]) (by rw[v,r]) (λi s y hs d=> ?_);rw[Jz,Jc]at hs d;obtain⟨f,g,rfl⟩:=hs;obtain⟨z,j,rfl⟩:=d;have l:i<I.toList.length:=(J9.1 g).1;have C:=K i (Ka.2 l);rw[g]at C;simp only[M5]at C;have:=hx i f (by simpa using g);rw[j]at this;rw[<-List.map_take]at*;rw[<-C];rw[hu]at a;exact E f.type _ z G (Je.1 a f (Jb g)) (q f (Jb g)) this (B z.1 (List.mem_map_of_mem (Jb j)))
   |array n e=>
    rw[hu]at c;simp only[Iy]at c;obtain⟨N,r⟩:=c;obtain⟨L,u,M,rfl,v,A,hx⟩:=DataW.trod_array hu h;obtain rfl:m=u:=Dx;simp only[VV]at o;have B:=b3e o;simp only[WB,c09,Mq];refine b5u (List.replicate n (P.cellsOf e)) cs _ (by simp[A]) (by rw[v,r];simp) (λi s y hs d=> ?_);rw[Jz,Jc]at d;obtain⟨z,j,rfl⟩:=d;have l:i<n:=by have:=(J9.1 hs).1;simpa using this
    have hs':s=P.cellsOf e:=by simp[l]at hs;exact hs.symm
    subst hs';have:=hx i l;rw[j]at this;rw[List.take_replicate,List.sum_replicate_nat,Nat.min_eq_left (Nat.le_of_lt l)];rw[hu]at a;exact E e _ z G a N this (B z.1 (List.mem_map_of_mem (Jb j)))
   |_=>
    simp[hu]at a
end
def svIs:SV->Value->Bool
 |.int k n,.int d m=>k==d&&n==m
 |.bool b,.bool c=>b==c
 |.clo f [],.func (.func g) a b=>f==g&&a.isEmpty&&b.isEmpty
 |_,_=>false
theorem d6m{w:World}{H:Nat->Prop}{μ:Mu}{s:SV}{v:Value}(h:svIs s v=true):D w H μ s v/\v.oneCell'=true/\s.pure=true:=by
 unfold svIs at h;split at h
 .simp only[Iy]at h;obtain⟨rfl,rfl⟩:=h;exact⟨.int,rfl,rfl⟩
 .simp only[M5]at h;subst h;exact⟨.bool,rfl,rfl⟩
 .rename_i f g a b;simp only[Iy,Array.isEmpty_iff]at h;obtain⟨⟨rfl,rfl⟩,rfl⟩:=h;exact⟨.clo [] rfl (λi s v h=>E8),rfl,rfl⟩
 .cases h
def d1f(sz n:Nat)(f:Nat->List SV)(cs:List Value):Bool:=
 cs.length==n*sz&&(List.range n).all λi=>(f i).length==sz&&((f i).zip ((cs.drop (i*sz)).take sz)).all λx=>svIs x.1 x.2
theorem c20{w:World}{A:Nat->Prop}{μ:Mu}{g sz n:Nat}{f:Nat->List SV}{cs:List Value}(o:0<n)(p:¬A g)(q:g<w.heap.size)(r:∀k,w.cell? ⟨g,k,none⟩=cs[k]?)(c:d1f sz n f cs=true):(SV.rel sz n f 0 0).pure=true/\D w A μ (.rel sz n f 0 0) (.pointer (some ⟨g,0,none⟩)):=by
 simp only[d1f,Iy,Je]at c;obtain⟨fe,c⟩:=c;have m:∀i j,i<n->j<sz->i*sz+j<cs.length:=λi j a b=>by have:=Km sz (show i+1<=n from a);rw[M8,Nat.one_mul]at this;omega
 have h:∀i j,i<n->j<sz->∀s,(f i)[j]?=some s->svIs s (cs.getD (i*sz+j) undef)=true:=by intro i j a b s hs;obtain⟨h1,t⟩:=c i (Ka.2 a);refine t (s,cs.getD (i*sz+j) undef) (L3.2 ⟨j,?_⟩);rw[List.getElem?_zip_eq_some];refine⟨hs,?_⟩;rw[List.getElem?_take,J7 b,Np,J5,J6 (m i j a b)];rfl
 have d:∀i,i<n->(f i).length=sz:=λi a=>(c i (Ka.2 a)).1;refine⟨rfl,?_⟩;have:=D.rel (w:=w) (H:=A) (μ:=μ) (sz:=sz) (n:=n) (i:=0) (off:=0) (f:=f) g 0 (λi j=>cs.getD (i*sz+j) undef) o p ⟨q,λi j a b=>⟨?_,?_⟩⟩ (λi a=>⟨d i a,?_⟩) (λi j s a hs=> ?_)
 .simpa using this
 .show w.cell? ⟨g,0+i*sz+j,none⟩=some (cs.getD (i*sz+j) undef);rw[L7,r,J5,J6 (m i j a b)];rfl
 .have u:j<(f i).length:=by rw[d i a];exact b
  exact(d6m (w:=w) (H:=A) (μ:=μ) (h i j a b _ (J6 u))).2.1
 .rw[Je];intro s hs;obtain⟨j,b,e⟩:=K7.1 hs;have l:j<sz:=by rw[<-d i a];exact b
  exact(d6m (w:=w) (H:=A) (μ:=μ) (h i j a l s (by rw[J6 b,e]))).2.2
 .have l:j<sz:=by rw[<-d i a];exact(J9.1 hs).1
  exact(d6m (h i j a l s hs)).1
structure FamH where
 ι:Type
 args:ι->List SV
 own:ι->List Blk
 pre:ι->Prop
 res:ι->SV
 own':ι->List Blk
 chg:List Nat
def LawH(F:FamH)(h:HK):Prop:=∀b a r,h b a=some r->r.pre->∃i,BT b (F.args i)/\a.length=(F.own i).length/\SH (F.own i).length a (F.own i)/\F.pre i/\r.res=F.res i/\r.own=F.own' i/\r.chg=F.chg
def Ue(E:Env)(st:St):ResultVar->Option SV
 |.tmp t=>CM E st.ρ none (.tmp t)
 |.cell t T=>(CM E st.ρ none (.tmp t)).bind λp=>match p with
  |.own k o=>(Ty E.P st.own T (.own k o)).map (·.2)
  |_=>none
def f7z(E:Env)(a:Func)(st:St):Option SV:=match a.results.toList with
 | [r]=>Ue E st r
 |b=>(b.mapM (Ue E st)).map .tup
def PJ(E:Env)(a:Func)(F:FamH)(i:F.ι)(st:St):Prop:=match f7z E a st with
 |some r=>r.le2 (F.res i)/\(if(F.res i).in2 (F.own' i).length=true then True else False)/\SH (F.own' i).length st.own (F.own' i)
 |none=>False
section
variable{E:Env}{B0:Nat}{X A:Nat->Prop}{w0:World}{nt:Nat}{st:St}{a:Act}{w:World}{μ:Mu}
theorem b7g(h:SD E B0 X A w0 nt st a w μ){r:ResultVar}{s:SV}(c:Ue E st r=some s):∃v,(RG a.tmps r).run E.P w=.ok v w/\D w (held A μ) μ s v:=by
 have d:=h.opds (g:=none) (λq b e=>E5);cases r with
 |tmp t=>
  simp only[Ue]at c;exact⟨_,rfl,d _ _ c⟩
 |cell t T=>
  simp only[Ue,Jd]at c;obtain⟨p,l,c⟩:=c;split at c
  .rename_i k o;simp only[Jc]at c;obtain⟨⟨q,s0⟩,f,rfl⟩:=c;have m:q:=by
    simp only[Ty,Is,Ii]at f;obtain⟨n,_,cs,_,s',_,rfl,_⟩:=f;exact Ja
   have i:=d _ _ l;obtain⟨u,j,x⟩:=b3h h.own (λ_ _ h=>h) i f m;refine⟨u,?_,x⟩;generalize y:a.eval (.tmp t)=v at i j;have z:a.tmps.getD t undef=v:=y;cases i with
   |own hk=>
    simp only[RG,z,asAddr,Ij];simpa[Instr.loadAt,Instr.sureAddr]using j
  .cases c
theorem c4j(h:SD E B0 X A w0 nt st a w μ):∀(l:List ResultVar) (b:List SV),l.mapM (Ue E st)=some b->∃c,(l.mapM (RG a.tmps)).run E.P w=.ok c w/\DL w (held A μ) μ b c:=by
 intro l;induction l with
 |nil=>intro b h;simp at h;subst h;exact⟨[],Dz,rfl,λi s v h=>E8⟩
 |cons r l g=>
  intro b hs;simp only[M7,Is,Option.pure_def,K0]at hs;obtain⟨s1,j,d,k,rfl⟩:=hs;obtain⟨v,hv,m⟩:=b7g h j;obtain⟨c,wk,f⟩:=g d k;refine⟨v::c,Hy,by simp[f.1],λi s n hs e=> ?_⟩;match i with
  |0=>simp at hs e;subst hs e;exact m
  |i+1=>exact f.2 i s n Fs (by simpa using e)
theorem d37(h:SD E B0 X A w0 nt st a w μ){c:Func}{s:SV}(b:f7z E c st=some s):∃v,(results c a.tmps).run E.P w=.ok v w/\D w (held A μ) μ s v:=by
 rw[b3m,L4,Array.mapM_eq_mapM_toList,Sem.run_map];unfold f7z at b;split at b
 .rename_i r g;obtain⟨v,i,j⟩:=b7g h b;refine⟨v,?_,j⟩;rw[g,M7,L4,i];simp
 .rename_i rs k;simp only[Jc]at b;obtain⟨l,f,rfl⟩:=b;obtain⟨d,m,e⟩:=c4j h _ l f;refine⟨.tuple d.toArray,?_,.tup d e.1 e.2⟩;rw[m];obtain⟨n,_⟩:=OE f;have o:d.length≠1:=by
   rw[e.1,n];intro p;match hl:c.results.toList,p with
   | [r],_=>exact k r hl
  simp[o]
end
structure GhX where
 g0:List Ghost:=[]
 gx:St->List Ghost:=λ_=>[]
def inG(E:Env)(G:GhX)(K:St->Prop)(st:St):Prop:=match G.g0 with
 | []=>K st
 |g::a=>Qs E K (g::a) st
def QC(E:Env)(G:GhX)(K:St->Prop)(st:St):Prop:=match G.gx st with
 | []=>K st
 |g::a=>Qs E K (g::a) st
theorem f91{P:Program}{glob:Nat->Option SV}{f:FuncId}{fn:Func}{code:Code}(F:FamH)(E:(i:F.ι)->Mu->Env)(Q2:∀i μ,(E i μ).P=P)(Q3:∀i μ,(E i μ).glob=glob)(S2:∀i μ,(E i μ).na=(F.own i).length/\(E i μ).ax=(λk=> !F.chg.contains k)/\(E i μ).av=μ)
 (hE:∀i μ,EnvOK (E i μ)) (hC:∀i μ,GI (E i μ)) (hm:P.follows .mixedOrders=true)
 (hf:P.funcs[f]?=some fn) (hb:fn.body=some code) (hn:(fn.name== "runtime.NumGoroutine")=false) (I:F.ι->Nat->Option Inv) (h:HK) (hh:LawH F h) (ba:∀i,(F.args i).length<=fn.ntmps) (j6:∀i,(F.own i).length<=(F.own' i).length) (G:GhX) (fj:∀i μ,JF (E i μ).c2 (PU (E i μ).gr) code=true)
 (H:∀i μ,F.pre i->inG (E i μ) G (EZ (E i μ) fn.ntmps (I i) code ⟨QC (E i μ) G (PJ (E i μ) fn F i),λ_ _=>False,QC (E i μ) G (PJ (E i μ) fn F i)⟩) ⟨MG 0 (F.args i),F.own i⟩):d4q P glob f h:=by
 refine⟨⟨fn,hf,hn,by rw[hb];rfl⟩,λA w args vals own μ r hA hg hO dc hD hr hp=> ?_⟩;obtain⟨i,bi,jx,w5,dg,e1,e2,e3⟩:=hh args own r hr hp;have hEP':=Q2 i μ;subst hEP';obtain⟨l1,l2⟩:=b40 bi;have t7:vals.length<=fn.ntmps:=H6;have pu:cut (F.own i).length μ=μ:=by
  funext k;unfold cut;split
  .rfl
  .rename_i hk;exact(dc k Dx).symm
 obtain⟨Y0,Zh,Y1⟩:=S2 i μ;refine calls_of_wp hf hb ?_;have hS:SD (E i μ) w.heap.size (Uz μ) A w fn.ntmps ⟨MG 0 (F.args i),F.own i⟩ {tmps:=vals.toArray++Array.replicate (fn.ntmps-vals.toArray.size) undef,defers:=[]} w μ:=by
  refine⟨⟨λk x hk=> ?_,hO.inj,λk x b hk hx=>⟨(hO.rng k x b hk hx).1,(hO.rng k x b hk hx).2.1,.inr ⟨k,x,hk,hx⟩⟩,hA⟩,Fr.refl _ _ _,Jf _,λg s s8=> ?_,rfl,E7,λt e he=> ?_,λk hk=>dc k (by rw[jx];exact hk),λk x hx=> ?_⟩
  .obtain⟨bl,e,bb⟩:=hO.blk k x hk;have b6:k<(F.own i).length:=by rw[<-jx];exact(J9.1 e).1
   obtain⟨b,e2,bi⟩:=b2q w5 k _ (J6 b6);rw[e]at e2;cases e2;refine⟨_,J6 b6,?_⟩;have:=Blk.le_sound (H':=held A μ) (λ_ h=>h) bb bi;rwa[pu]at this
  .rw[Q3]at s8;exact⟨(hg g s s8).1,(hg g s s8).2.keep ⟨Jf _,λ_ _ _=>rfl,λ_ _ h=>h,λ_ _ h=>E9⟩⟩
  .obtain⟨h1,_,h3⟩:=b5h _ _ he;unfold CZ;rw[h1];simp only;rw[MJ he];have b6:t<(F.args i).length:=(J9.1 h3).1;obtain⟨s0,bz,rf⟩:=l2 t e.sv Gi;have tj:t<vals.length:=H7;have hd:=hD.2 t s0 vals[t] bz (J6 tj);have dw:(vals.toArray++Array.replicate (fn.ntmps-vals.toArray.size) undef).getD t undef=vals[t]:=by
    simp[Array.getElem?_append,tj]
   rw[dw];exact Qu hd rf
  .have pz:=Env.an_ak hx;unfold Env.an at hx;rw[J7 pz,Y1]at hx;exact hx
 have bg:∃st0 μ0,SD (E i μ) w.heap.size (Uz μ) A w fn.ntmps st0 {tmps:=vals.toArray++Array.replicate (fn.ntmps-vals.toArray.size) undef,defers:=[]} w μ0/\EZ (E i μ) fn.ntmps (I i) code ⟨QC (E i μ) G (PJ (E i μ) fn F i),λ_ _=>False,QC (E i μ) G (PJ (E i μ) fn F i)⟩ st0:=by
  have h0:=H i μ dg;unfold inG at h0;split at h0
  .exact⟨_,_,hS,h0⟩
  .exact XK _ hS h0
 obtain⟨st0,μ0,hS0,hH0⟩:=bg;refine b6c (hE i μ) (hC i μ) hm code (I i) ⟨QC (E i μ) G (PJ (E i μ) fn F i),λ_ _=>False,QC (E i μ) G (PJ (E i μ) fn F i)⟩ _ _ _ w μ0 (fj i μ) hS0 ⟨λst1 a w' μ1 hs hr=> ?_,λi st a w' μ2 hs hr=>hr.elim,λst1 a w' μ1 hs hr=> ?_⟩ hH0;all_goals
  have hout:∃st μ2,SD (E i μ) w.heap.size (Uz μ) A w fn.ntmps st a w' μ2/\PJ (E i μ) fn F i st:=by
   replace hr:QC (E i μ) G (PJ (E i μ) fn F i) st1:=hr;unfold QC at hr;split at hr
   .exact⟨_,_,hs,hr⟩
   .exact XK _ hs hr
  clear hr hs;obtain⟨st,μ2,hs,hr⟩:=hout;unfold PJ at hr;split at hr
  .rename_i rs g9;obtain⟨hr1,Y2,hr3⟩:=hr;have bg:(F.res i).in2 (F.own' i).length=true:=by
    split at Y2
    .assumption
    .exact Y2.elim
   obtain⟨v,hv,hd⟩:=d37 hs g9;have hH:∀b,held A (cut (F.own' i).length μ2) b->held A μ2 b:=by
    intro b hb;rcases hb with hb|⟨k,x,hk,hx⟩
    .exact .inl hb
    .refine .inr ⟨k,x,?_,hx⟩;unfold cut at hk;split at hk
     .exact hk
     .cases hk
   have pe:∀{k x},cut (F.own' i).length μ2 k=some x->k<(F.own' i).length/\μ2 k=some x:=by
    intro k x hk;unfold cut at hk;split at hk
    .exact⟨‹_›,hk⟩
    .cases hk
   rw[e1,e2,e3];refine⟨hs.dfr,v,hv,v,cut (F.own' i).length μ2,rfl,⟨λk x hk=> ?_,λk k' x x' b hk dh=>hs.own.inj k k' x x' b (pe hk).2 (pe dh).2,λk x b hk hx=> ?_,hs.own.bnd⟩,λk hk=>by unfold cut;rw[if_neg Dx],c29 hH (Qu hd hr1) bg,λk x hk hc hx=> ?_,hs.fr⟩
   .obtain⟨b6,hk⟩:=pe hk;obtain⟨bl,e1,hb⟩:=hs.own.blk k x hk;obtain⟨b,e2,bi⟩:=b2q hr3 k _ (J6 b6);rw[e1]at e2;cases e2;exact⟨_,J6 b6,Blk.le_sound hH hb bi⟩
   .exact hs.own.rng k x b (pe hk).2 hx
   .have pz:(E i μ).ak k=true:=by
     unfold Env.ak;rw[Y0,Zh];simp only[Ip];exact⟨Dx,by rw[hc];rfl⟩
    have:=hs.anc k x (by unfold Env.an;rw[if_pos pz,Y1];exact hx);have sj:k<(F.own' i).length:=by exact K9 Dx (j6 i)
    unfold cut;rw[J7 sj];exact this
  .exact hr.elim
def Qd(P:Program):Nat->TypeId->Nat->Bool
 |0,_,_=>false
 |d+1,T,n=>match P.underlying T with
  |some .bool|some (.int _)|some .string=>decide (n=1)&&decide (CU P T=some 1)
  |some (.struct a)=>a.toList.all λf=>match CU P f.type with
   |some k=>decide (f.offset+k<=n)&&Qd P d f.type k
   |none=>false
  |some (.array len e)=>match CU P e with
   |some k=>decide (n=len*k)&&Qd P d e k
   |none=>false
  |_=>false
theorem c95{P:Program}{d n:Nat}{T:TypeId}(h:Qd P d T n=true):∃a,P.underlying T=some a/\(HI a=false->n=1):=by
 cases d with
 |zero=>simp[Qd]at h
 |succ d=>
  unfold Qd at h;split at h
  .exact Cu
  .exact Cu
  .exact Cu
  .rename_i hu;exact⟨_,hu,λh=>G5⟩
  .rename_i hu;exact⟨_,hu,λh=>G5⟩
  .cases h
theorem run_ck{P:Program}(em:Bool):∀(d:Nat) (T:TypeId) (n:Nat) (us:List Value) (m:Nat) (w:World),Qd P d T n=true->us.length=n->(∀u∈us,∃k i,u=.int k i)->(Instr.checkKey em (d+m) T (HC P T us)).run P w=.ok () w:=by
 intro d;induction d with
 |zero=>intro T n us m w h;simp[Qd]at h
 |succ d ih=>
  intro T n us m w h hl hi;rw[show d+1+m=(d+m)+1 from Dx];have flat:∀dd,P.underlying T=some dd->HI dd=false->(match dd with|.bool|.int _|.string=>True|_=>False)->us.length=1->(Instr.checkKey em (d+m+1) T (HC P T us)).run P w=.ok () w:=by
   intro dd hu ha hd h1;match us,h1 with
   | [u],_=>
     obtain⟨k,i,rfl⟩:=hi u Dz;have:HC P T [Value.int k i]=.int k i:=by simp[HC,IQ,hu,ha]
     rw[this];cases dd<;>simp at hd<;>simp[Instr.checkKey,Ke hu]
  unfold Qd at h;split at h
  .exact Cv
  .exact Cv
  .exact Cv
  .rename_i fs hu;have hv:HC P T us=.agg us.toArray:=by simp[HC,IQ,hu,HI]
   rw[hv,Instr.checkKey];simp only[Iz,Ke hu];rw[<-Array.forIn_toList];have c6:=Je.1 h;clear h;generalize fs.toList=L at c6;induction L with
   |nil=>simp
   |cons f L ihL=>
    have hf:=c6 f Dz;split at hf;rotate_left
    .cases hf
    rename_i k hk;simp only[Ip]at hf;obtain⟨ho,hc⟩:=hf;simp only[CU,Jc]at hk;obtain⟨inf,bu,rfl⟩:=hk;obtain⟨dd,Zi,h1⟩:=c95 hc;have p1:=To (w:=w) Zi bu us f.offset Dx h1;have p2:=ih f.type inf.size ((us.drop f.offset).take inf.size) m w hc E7 (λu hu=>hi u (List.mem_of_mem_drop (List.mem_of_mem_take hu)));have rest:=ihL (λx hx=>c6 x Eh);by_cases hn:f.name= "_"
    .simp only[List.forIn_cons,Ij,hn,ne_eq,not_true_eq_false,if_false];exact rest
    .simp only[List.forIn_cons,Ij,hn,ne_eq,not_false_eq_true,Kp,p1,p2];exact rest
  .rename_i len e hu;have hv:HC P T us=.agg us.toArray:=by simp[HC,IQ,hu,HI]
   split at h;rotate_left
   .cases h
   rename_i k hk;simp only[Ip]at h;obtain⟨hn,hc⟩:=h;simp only[CU,Jc]at hk;obtain⟨inf,bu,rfl⟩:=hk;obtain⟨dd,Zi,h1⟩:=c95 hc;rw[hv,Instr.checkKey];simp only[Iz,Ke hu];simp only[Std.Legacy.Range.forIn_eq_forIn_range',Std.Legacy.Range.size,Nat.sub_zero,Nat.add_one_sub_one,Nat.div_one];have c6:∀i∈List.range' 0 len,i<len:=λi hi=>by simp[List.mem_range']at hi;omega
   generalize List.range' 0 len=is at c6;induction is with
   |nil=>simp
   |cons j is ihj=>
    have hj:=c6 j Dz;have my:j*inf.size+inf.size<=len*inf.size:=by rw[<-Mx];exact Km _ hj
    have p1:=To (w:=w) Zi bu us (j*inf.size) Dx h1;have p2:=ih e inf.size ((us.drop (j*inf.size)).take inf.size) m w hc E7 (λu hu=>hi u (List.mem_of_mem_drop (List.mem_of_mem_take hu)));simp only[List.forIn_cons,Ij,HN (w:=w) bu,p1,p2];exact ihj (λx hx=>c6 x Eh)
  .cases h
def Ok:List IntKind->List Int->List SV
 |k::a,n::b=>.int k n::Ok a b
 |_,_=>[]
theorem b02:∀{ks:List IntKind} {q:List Int},q.length=ks.length->(HO ks q).length=ks.length
 | [],[],_=>rfl
 |_::ks,_::q,h=>by simp[HO,b02 (ks:=ks) (q:=q) E4]
theorem b0n:∀{ks:List IntKind} {q:List Int},q.length=ks.length->(Ok ks q).length=ks.length
 | [],[],_=>rfl
 |_::ks,_::q,h=>by simp[Ok,b0n (ks:=ks) (q:=q) E4]
theorem b9w{w:World}{H:Nat->Prop}{μ:Mu}:∀{ks:List IntKind} {q:List Int} (i:Nat) (s:SV) (v:Value),(Ok ks q)[i]?=some s->(HO ks q)[i]?=some v->D w H μ s v
 |k::ks,n::q,i,s,v,hs,a=>by
  match i with
  |0=>simp[Ok]at hs;simp[HO]at a;subst hs a;exact .int
  |i+1=>exact b9w i s v (by simpa[Ok]using hs) (by simpa[HO]using a)
 | [],_,i,s,v,hs,_=>by simp[Ok]at hs
 |_::_,[],i,s,v,hs,_=>by simp[Ok]at hs
theorem b2a:∀{ks:List IntKind} {q c:List Int},q.length=ks.length->c.length=ks.length->HO ks q=HO ks c->q=c
 | [],[],[],_,_,_=>rfl
 |_::ks,a::q,b::c,h,d,e=>by simp only[HO,List.cons.injEq,Value.int.injEq,Nt]at e;rw[e.1,b2a (ks:=ks) E4 (by simpa using d) e.2]
theorem b17:∀{ks:List IntKind} {q:List Int},∀u∈HO ks q,∃k i,u=.int k i
 |k::ks,n::q,u,a=>by
  simp only[HO,Ji]at a;rcases a with rfl|a
  .exact C9
  .exact b17 (ks:=ks) u a
 | [],_,u,a=>by simp[HO]at a
 |_::_,[],u,a=>by simp[HO]at a
theorem b35(m:Nat):∀{l:List Value},(∀u∈l,∃k i,u=.int k i)->((l.zip l).all λ(x,y)=>Instr.sameBits m x y)=true
 | [],_=>rfl
 |u::l,h=>by obtain⟨k,i,rfl⟩:=h u Dz;simp only[List.zip_cons_cons,List.all_cons,K6];refine⟨?_,b35 m (λu a=>h u (by simp[a]))⟩;cases m<;>simp[Instr.sameBits]
theorem b57 {E : Env} (I : EnvOK E) {key : TypeId} {ks : List IntKind} (l : (match E.P.underlying key with | some (.array _ _) | some (.struct _) => true | _ => false) = true)
    (J : ∀ i u : List Int, i.length = ks.length → u.length = ks.length → ND E 8 key (Ok ks i) (Ok ks u) = some (decide (i = u))) (v : Qd E.P 8 key ks.length = true) : KLaw E.P key (.ints ks) := by
  have z : ∀ A : List Value, HC E.P key A = .agg A.toArray := λA => by
    unfold HC IQ
    cases hu : E.P.underlying key with
    | none => rw [hu] at l; cases l
    | some d => cases d <;> rw [hu] at l <;> first | (cases l; done) | simp [HI]
  refine ⟨λw K q c => ?_, λw q f c s => ?_, λw q c => ?_, λq b c k e => ?_⟩
  · have := run_ck (P := E.P) K 8 key ks.length (HO ks q) 9992 w v (b02 c) b17
    rw [z] at this
    exact this
  · rw [run_findKey_eq w l]
    have n : ∀ (f : List MapEntry) (g : Nat), (∀ e ∈ f, ∃ b, LF (.ints ks) b ∧ e.key = kv (.ints ks) b) →
        ∃ r, (Instr.findAsking key (kv (.ints ks) q) f g).run E.P w = .ok r w ∧ ((r = none ∧ ∀ e ∈ f, e.key ≠ kv (.ints ks) q) ∨ ∃ (j : Nat) (e : MapEntry), r = some (g + j, e.val) ∧ f[j]? = some e ∧ e.key = kv (.ints ks) q) := by
      intro f
      induction f with
      | nil => intro g _; exact ⟨none, by simp [Instr.findAsking], .inl ⟨rfl, λe L => by simp at L⟩⟩
      | cons e f M =>
        intro g s
        obtain ⟨b, k, o⟩ := s e Dz
        have F : (Op.equal key (kv (.ints ks) q) e.key).run E.P w = .ok (decide (q = b)) w := by
          have := (b88 (w := w) (H := λ_ => False) (μ := BN) I 8 key (Ok ks q) (Ok ks b) _ (HO ks q) (HO ks b) 9992 (J q b c k) ((b02 c).trans (b0n c).symm) ((b02 k).trans (b0n k).symm) b9w b9w).2
          rw [z, z] at this
          rw [o]
          exact this
        by_cases B : q = b
        · subst B
          refine ⟨some (g + 0, e.val), ?_, .inr ⟨0, e, rfl, rfl, o⟩⟩
          simp [Instr.findAsking, F]
        · obtain ⟨r, C, hx⟩ := M (g + 1) (λx hx => s x Eh)
          refine ⟨r, by simp [Instr.findAsking, F, B, C], ?_⟩
          rcases hx with ⟨rfl, N⟩ | ⟨j, t, rfl, hj, O⟩
          · refine .inl ⟨rfl, λx hx => ?_⟩
            rcases Ji.1 hx with rfl | hx
            · intro G
              rw [o] at G
              have : (HO ks b).toArray = (HO ks q).toArray := by simpa [kv] using G
              exact B (b2a c k (by simpa using this.symm))
            · exact N x hx
          · exact .inr ⟨j + 1, t, by rw [show g + 1 + j = g + (j + 1) from Dx], En, O⟩
    obtain ⟨r, C, hx⟩ := n f 0 s
    refine ⟨r, C, ?_⟩
    rcases hx with h | ⟨j, e, rfl, hj, o⟩
    · exact .inl h
    · exact .inr ⟨j, e, by rw [L7], hj, o⟩
  · have : Instr.sameBits 10000 (kv (.ints ks) q) (kv (.ints ks) q) = true := by
      have Q : ∀ (m : Nat) (a : Array Value), Instr.sameBits (m + 1) (.agg a) (.agg a) = ((a.size == a.size) && (a.toList.zip a.toList).all λ(x, y) => Instr.sameBits m x y) := λm a => rfl
      rw [kv, show (10000 : Nat) = 9999 + 1 from rfl, Q, BEq.rfl, Bool.true_and]
      exact b35 9999 b17
    rw [Instr.keyThatStays, J7 this, Sem.run_pure]
  · have t : (Value.agg (HO ks q).toArray) = .agg (HO ks b).toArray := e
    rw [Value.agg.injEq] at t
    exact b2a c k (by simpa using t)
def stL:List TypeId:=[
 26,
 100,
 39,
 258,
 51,
 71,
 31,
 119,
 89,
 82,
  26]
def stT:TypeId->Bool:=λt=>stL.contains t
def tb(l:List Int)(i:Nat):Int:=l.getD i 0
def WR(i:Nat):List SV:=[.int .i64 (tb [0,1,0,-1] i),.int .i64 (tb [-1,0,1,0] i),.int .u8 (tb [2,1,2,1] i),.int .i64 (tb [0,1,1,0] i),
 .int .i64 (tb [0,1,0,-1] i),.int .i64 (tb [-1,0,1,0] i),.int .u8 (tb [2,3,0,1] i),.int .i64 (tb [0,0,0,0] i),.int .i64 (tb [0,0,0,0] i),.int .u8 (tb [1,0,3,2] i),.int .i64 (tb [0,0,0,0] i),.int .i64 (tb [0,0,0,0] i),.int .u8 (tb [3,2,1,0] i),
 .int .i64 (tb [0,2,2,0] i),.int .i64 (tb [0,2,2,0] i),.int .i64 (tb [2,2,0,0] i),.int .i64 (tb [0,0,2,2] i)]
def QJ(i:Nat):List SV:=[.int .i64 (tb [1,0,-1,0,-1,0,1,0] i),.int .i64 (tb [0,-1,0,1,0,-1,0,1] i),.int .i64 (tb [0,1,0,-1,0,-1,0,1] i),.int .i64 (tb [1,0,-1,0,1,0,-1,0] i)]
def QD:Nat->Option SV
 |0=>some (.rel 4 8 QJ 0 0)
 |1=>some (.rel 17 4 WR 0 0)
 |_=>none
def ktT:TypeId->Option KT
 |97=>some (.ints [.i64,.u8])
 |249=>some (.ints [.i64,.u8])
 |178=>some (.ints [.i64,.i64,.u8])
 |185=>some (.ints [.i64,.i64,.u8,.i64,.i64,.u8])
 |_=>none
abbrev AK:=List SV->Option (Prop×SV)
def VM(l:List (FuncId×AK)):FuncId->Option AK:=λf=>match l with
 | []=>none
 |(g,k)::r=>if g==f then some k else VM r f
def tabX(l:List (FuncId×KV)):FuncId->Option KV:=λf=>match l with
 | []=>none
 |(g,k)::r=>if g==f then some k else tabX r f
def tabH(l:List (FuncId×HK)):FuncId->Option HK:=λf=>match l with
 | []=>none
 |(g,k)::r=>if g==f then some k else tabH r f
def f14(l:List (FuncId×AK))(f:FuncId):Bool:=match l with
 | []=>false
 |(g,_)::r=>if g==f then true else f14 r f
noncomputable def EX(l:List (FuncId×AK))(x:List (FuncId×KV))(h:List (FuncId×HK))(fz:Nat->Bool)(c2:Bool)(gr:Nat->List Ghost)(na:Nat)(ax:Nat->Bool)(av:Mu)(fs:List (FuncId×AK)):Env:={P:=Tryz.prog,C:=VM (fs++l),glob:=QD,ng:=0,st:=stT,X:=tabX x,fz:=fz,na:=na,ax:=ax,av:=av,kt:=ktT,Hc:=tabH h,c2:=c2,gr:=gr,fs:=λf=>f14 fs f}
noncomputable abbrev E0(l:List (FuncId×AK)):Env:=EX l [] [] (λ_=>false) false (λ_=>[]) 0 (λ_=>true) (λ_=>none) []
abbrev PS(f:FuncId)(k:AK):Prop:=c8c Tryz.prog QD f k
abbrev PF(f:FuncId)(k:AK):Prop:=PS f k/\c7y Tryz.prog QD f k
abbrev ES(f:FuncId)(e:KV):Prop:=f5e Tryz.prog QD f e
abbrev HS(f:FuncId)(h:HK):Prop:=d4q Tryz.prog QD f h
theorem b5w{l:List (FuncId×AK)}{x:List (FuncId×KV)}{h:List (FuncId×HK)}{fz:Nat->Bool}{c2:Bool}{gr:Nat->List Ghost}{na:Nat}{ax:Nat->Bool}{av:Mu}{fs:List (FuncId×AK)}(d:∀x∈l,PS x.1 x.2)(hx:∀y∈x,ES y.1 y.2)(g:∀y∈h,HS y.1 y.2)(i:∀x∈fs,PF x.1 x.2):GI (EX l x h fz c2 gr na ax av fs):=by
 refine⟨?_,?_,?_⟩
 .intro f k hk;have a:∀(l:List (FuncId×AK)),(∀x∈l,PS x.1 x.2)->VM l f=some k->PS f k:=by
   intro l;induction l with
   |nil=>intro _ h;cases h
   |cons x l ih=>
    intro h hk;simp only[VM]at hk;split at hk
    .rename_i e;cases hk;have:=h x Dz;rw[M5.1 e]at this;exact this
    .exact Cw
  have b:∀(fs:List (FuncId×AK)),(∀x∈fs,PF x.1 x.2)->VM (fs++l) f=some k->PS f k/\(f14 fs f=true->c7y Tryz.prog QD f k):=by
   intro fs;induction fs with
   |nil=>intro _ h;exact⟨a l d h,λh=>E9⟩
   |cons x fs ih=>
    intro h hk;simp only[Mh,VM]at hk;split at hk
    .rename_i e;cases hk;have:=h x Dz;rw[M5.1 e]at this;exact⟨this.1,λ_=>this.2⟩
    .rename_i e;obtain⟨j,m⟩:=ih (λy hy=>h y Ex) hk;refine⟨j,λc=>m ?_⟩;simp only[f14]at c;rwa[J8 e]at c
  exact b fs i hk
 .intro f k hk;have a:∀(l:List (FuncId×KV)),(∀x∈l,ES x.1 x.2)->tabX l f=some k->ES f k:=by
   intro l;induction l with
   |nil=>intro _ h;cases h
   |cons x l ih=>
    intro h hk;simp only[tabX]at hk;split at hk
    .rename_i e;cases hk;have:=h x Dz;rw[M5.1 e]at this;exact this
    .exact Cw
  exact a x hx hk
 .intro f k hk;have a:∀(l:List (FuncId×HK)),(∀x∈l,HS x.1 x.2)->tabH l f=some k->HS f k:=by
   intro l;induction l with
   |nil=>intro _ h;cases h
   |cons x l ih=>
    intro h hk;simp only[tabH]at hk;split at hk
    .rename_i e;cases hk;have:=h x Dz;rw[M5.1 e]at this;exact this
    .exact Cw
  exact a h g hk
def stOK(P:Program)(T:TypeId):Bool:= !P.stoodInHeld T&& !P.eqGuardType P.depth T&&match P.underlying T with
 |some (.struct fs)=>fs.toList.all λf=>f.name != "_"
 |_=>false
theorem d61{P:Program}{T:TypeId}(h:stOK P T=true):P.stoodInHeld T=false/\P.eqGuardType P.depth T=false/\∃fs,P.underlying T=some (.struct fs)/\∀f∈fs.toList,f.name≠ "_" :=by
 unfold stOK at h;simp only[J3]at h;obtain⟨⟨h1,h2⟩,h3⟩:=h;refine⟨h1,h2,?_⟩;split at h3
 .rename_i fs mn;refine⟨fs,mn,λf hf=> ?_⟩;have:=Je.1 h3 f hf;simpa using this
 .cases h3
theorem f99:(stL.all λT=>stOK Tryz.prog T)=true:=Dy
theorem d5d:∀T,stT T=true->Tryz.prog.stoodInHeld T=false/\Tryz.prog.eqGuardType Tryz.prog.depth T=false/\∃fs,Tryz.prog.underlying T=some (.struct fs)/\∀f∈fs.toList,f.name≠ "_" :=by intro T hT;exact d61 (Je.1 f99 T (List.contains_iff_mem.1 hT))
noncomputable def EB:Env:={P:=Tryz.prog,C:=λ_=>none,glob:=λ_=>none,ng:=0,st:=stT}
theorem f5w:EnvOK EB:=⟨d5d,λT K h=>E9⟩
theorem dec2(a b a' c:Int):(decide (a=a')&&(decide (b=c)&&true))=decide ([a,b]=[a',c]):=by rw[Ls];simp
theorem dec3(a b c a' d e:Int):(decide (a=a')&&(decide (b=d)&&(decide (c=e)&&true)))=decide ([a,b,c]=[a',d,e]):=by rw[Ls];simp
theorem dec6(a b c d e f a' g h i j k:Int):((decide (a=a')&&(decide (b=g)&&(decide (c=h)&&true)))&&((decide (d=i)&&(decide (e=j)&&(decide (f=k)&&true)))&&true))=decide ([a,b,c,d,e,f]=[a',g,h,i,j,k]):=by rw[Ls];simp[and_assoc]
theorem f8w(a b a' c:Int):ND EB 8 100 [.int .i64 a,.int .u8 b] [.int .i64 a',.int .u8 c]=some (decide (a=a')&&(decide (b=c)&&true)):=Dy
theorem c6z:KLaw Tryz.prog 100 (.ints [.i64,.u8]):=b57 f5w Dy (λc d e f=>by
 match c,d,e,f with
 | [a,b],[g,i],_,_=>rw[<-dec2];exact f8w a b g i) Dy
theorem g0x(a b c a' d e:Int):ND EB 8 39 [.int .i64 a,.int .i64 b,.int .u8 c] [.int .i64 a',.int .i64 d,.int .u8 e]=some (decide (a=a')&&(decide (b=d)&&(decide (c=e)&&true))):=Dy
theorem f24:KLaw Tryz.prog 39 (.ints [.i64,.i64,.u8]):=b57 f5w Dy (λd e f g=>by
 match d,e,f,g with
 | [a,b,c],[i,j,k],_,_=>rw[<-dec3];exact g0x a b c i j k) Dy
theorem f19(a b c d e f a' g i j k l:Int):ND EB 8 193 [.int .i64 a,.int .i64 b,.int .u8 c,.int .i64 d,.int .i64 e,.int .u8 f] [.int .i64 a',.int .i64 g,.int .u8 i,.int .i64 j,.int .i64 k,.int .u8 l]=some ((decide (a=a')&&(decide (b=g)&&(decide (c=i)&&true)))&&((decide (d=j)&&(decide (e=k)&&(decide (f=l)&&true)))&&true)):=Dy
theorem d42:KLaw Tryz.prog 193 (.ints [.i64,.i64,.u8,.i64,.i64,.u8]):=b57 f5w Dy (λg i j k=>by
 match g,i,j,k with
 | [a,b,c,d,e,f],[l,m,n,o,q,r],_,_=>rw[<-dec6];exact f19 a b c d e f l m n o q r) Dy
theorem f6i:∀T K,ktT T=some K->∃a b,Tryz.prog.underlying T=some (.map a b)/\KLaw Tryz.prog a K:=by
 intro T K h;unfold ktT at h;split at h<;>cases h
 .exact⟨_,_,(by kernel_rfl:Tryz.prog.underlying 97=some (.map 100 49)),c6z⟩
 .exact⟨_,_,(by kernel_rfl:Tryz.prog.underlying 249=some (.map 100 4)),c6z⟩
 .exact⟨_,_,(by kernel_rfl:Tryz.prog.underlying 178=some (.map 39 3)),f24⟩
 .exact⟨_,_,(by kernel_rfl:Tryz.prog.underlying 185=some (.map 193 197)),d42⟩
theorem f7i(l:List (FuncId×AK))(x:List (FuncId×KV))(h:List (FuncId×HK))(fz:Nat->Bool)(c2:Bool)(gr:Nat->List Ghost)(na:Nat)(ax:Nat->Bool)(av:Mu)(fs:List (FuncId×AK)):EnvOK (EX l x h fz c2 gr na ax av fs):=⟨d5d,f6i⟩
theorem f7e:Tryz.prog.follows .mixedOrders=true:=Dy
structure Cs where
 l:List (FuncId×AK):=[]
 x:List (FuncId×KV):=[]
 h:List (FuncId×HK):=[]
 fz:Nat->Bool:=λ_=>false
 c2:Bool:=false
 gr:Nat->List Ghost:=λ_=>[]
 G:GhX:={}
 fs:List (FuncId×AK):=[]
 fsok:∀x∈fs,PF x.1 x.2:=by simp
def Cs.OK(c:Cs):Prop:=(∀x∈c.l,PS x.1 x.2)/\(∀y∈c.x,ES y.1 y.2)/\∀y∈c.h,HS y.1 y.2
theorem LL{f:FuncId}{fn:Func}(c:Cs)(hc:c.OK)(F:Fam)(I:F.ι->Nat->Option Inv)(k:AK)(hk:RI F k)(ba:∀i,(F.args i).length<=fn.ntmps)
 (hf:Tryz.prog.funcs[f]?=some fn) (hb:fn.body.isSome=true) (hn:(fn.name== "runtime.NumGoroutine")=false) (fj:JF c.c2 (PU c.gr) (fn.body.getD .skip)=true)
 (H:∀i,F.pre i->EZ (EX c.l c.x c.h c.fz c.c2 c.gr 0 (λ_=>true) (λ_=>none) c.fs) fn.ntmps (I i) (fn.body.getD .skip) ⟨NB (EX c.l c.x c.h c.fz c.c2 c.gr 0 (λ_=>true) (λ_=>none) c.fs) fn (F.res i),λ_ _=>False,NB (EX c.l c.x c.h c.fz c.c2 c.gr 0 (λ_=>true) (λ_=>none) c.fs) fn (F.res i)⟩ ⟨MG 0 (F.args i),[]⟩):PS f k:=by
 cases rh:fn.body with
 |none=>rw[rh]at hb;cases hb
 |some code=>
  rw[rh]at fj H;exact verify (EX c.l c.x c.h c.fz c.c2 c.gr 0 (λ_=>true) (λ_=>none) c.fs) rfl rfl rfl (f7i ..) (b5w hc.1 hc.2.1 hc.2.2 c.fsok) f7e hf rh hn F I k hk ba fj H
theorem Ym{f:FuncId}{fn:Func}(c:Cs)(hc:c.OK)(F:Fam)(I:F.ι->Nat->Option Inv)(k:AK)(hk:RI F k)(ba:∀i,(F.args i).length<=fn.ntmps)
 (hf:Tryz.prog.funcs[f]?=some fn) (hb:fn.body.isSome=true) (hn:(fn.name== "runtime.NumGoroutine")=false) (fj:JF c.c2 (PU c.gr) (fn.body.getD .skip)=true)
 (H:∀i,F.pre i->EZ (EX c.l c.x c.h c.fz c.c2 c.gr 0 (λ_=>true) (λ_=>none) c.fs) fn.ntmps (I i) (fn.body.getD .skip) ⟨SX (EX c.l c.x c.h c.fz c.c2 c.gr 0 (λ_=>true) (λ_=>none) c.fs) fn (F.res i),λ_ _=>False,SX (EX c.l c.x c.h c.fz c.c2 c.gr 0 (λ_=>true) (λ_=>none) c.fs) fn (F.res i)⟩ ⟨MG 0 (F.args i),[]⟩):PF f k:=by
 cases rh:fn.body with
 |none=>rw[rh]at hb;cases hb
 |some code=>
  rw[rh]at fj H;exact f77 (EX c.l c.x c.h c.fz c.c2 c.gr 0 (λ_=>true) (λ_=>none) c.fs) rfl rfl rfl (f7i ..) (b5w hc.1 hc.2.1 hc.2.2 c.fsok) f7e hf rh hn F I k hk ba fj H
theorem con{f:FuncId}{fn:Func}(l:List (FuncId×AK))(hl:∀x∈l,PS x.1 x.2)(F:Fam)(I:F.ι->Nat->Option Inv)(k:AK)(hk:RI F k)(ba:∀i,(F.args i).length<=fn.ntmps)
 (hf:Tryz.prog.funcs[f]?=some fn) (hb:fn.body.isSome=true) (hn:(fn.name== "runtime.NumGoroutine")=false) (fj:JF false (PU λ_=>[]) (fn.body.getD .skip)=true)
 (H:∀i,F.pre i->EZ (E0 l) fn.ntmps (I i) (fn.body.getD .skip) ⟨NB (E0 l) fn (F.res i),λ_ _=>False,NB (E0 l) fn (F.res i)⟩ ⟨MG 0 (F.args i),[]⟩):PS f k:=
 LL {l:=l} ⟨hl,Dz,Dz⟩ F I k hk ba hf hb hn fj H
theorem FU{f:FuncId}{fn:Func}(c:Cs)(hc:c.OK)(F:FamH)(I:F.ι->Nat->Option Inv)(h:HK)(hh:LawH F h)(ba:∀i,(F.args i).length<=fn.ntmps)(j6:∀i,(F.own i).length<=(F.own' i).length)
 (hf:Tryz.prog.funcs[f]?=some fn) (hb:fn.body.isSome=true) (hn:(fn.name== "runtime.NumGoroutine")=false) (fj:JF c.c2 (PU c.gr) (fn.body.getD .skip)=true)
 (H:∀i μ,F.pre i->inG (EX c.l c.x c.h c.fz c.c2 c.gr (F.own i).length (λk=> !F.chg.contains k) μ c.fs) c.G (EZ (EX c.l c.x c.h c.fz c.c2 c.gr (F.own i).length (λk=> !F.chg.contains k) μ c.fs) fn.ntmps (I i) (fn.body.getD .skip) ⟨QC (EX c.l c.x c.h c.fz c.c2 c.gr (F.own i).length (λk=> !F.chg.contains k) μ c.fs) c.G (PJ (EX c.l c.x c.h c.fz c.c2 c.gr (F.own i).length (λk=> !F.chg.contains k) μ c.fs) fn F i),λ_ _=>False,QC (EX c.l c.x c.h c.fz c.c2 c.gr (F.own i).length (λk=> !F.chg.contains k) μ c.fs) c.G (PJ (EX c.l c.x c.h c.fz c.c2 c.gr (F.own i).length (λk=> !F.chg.contains k) μ c.fs) fn F i)⟩) ⟨MG 0 (F.args i),F.own i⟩):HS f h:=by
 cases rh:fn.body with
 |none=>rw[rh]at hb;cases hb
 |some code=>
  rw[rh]at fj H;exact f91 F (λi μ=>EX c.l c.x c.h c.fz c.c2 c.gr (F.own i).length (λk=> !F.chg.contains k) μ c.fs) (λ_ _=>rfl) (λ_ _=>rfl) (λ_ _=>⟨rfl,rfl,rfl⟩) (λ_ _=>f7i ..) (λ_ _=>b5w hc.1 hc.2.1 hc.2.2 c.fsok) f7e hf rh hn I h hh ba j6 c.G (λ_ _=>fj) H
theorem RI.of_eq{F:Fam}{k:AK}(h:∀a b s,k a=some (b,s)->b->∃i,BT a (F.args i)/\F.pre i/\s=F.res i):RI F k:=h
def Lf(p:Prop):Prop:=Classical.choose (p:=λq:Prop=>q=p) ⟨p,rfl⟩
theorem Le(p:Prop):Lf p=p:=Classical.choose_spec (p:=λq:Prop=>q=p) ⟨p,rfl⟩
theorem Lm{p:Prop}(h:p):Lf p:=Eq.mpr (Le p) h
structure Wk (q p:Prop):Prop where
 out:q->p
theorem Wan{a b A B:Prop}(f:Wk a A)(g:Wk b B):Wk (a/\b) (A/\B):=⟨λh=>⟨f.1 h.1,g.1 h.2⟩⟩
theorem Was{a x B:Prop}(hx:x)(f:Wk a B):Wk a (KM x/\B):=⟨λh=>⟨KM.mk hx,f.1 h⟩⟩
theorem Wbr{c:Bool}{A B a b:Prop}(f:c=true->Wk a A)(g:c=false->Wk b B):Wk ((c=true->a)/\(c=false->b)) (Br c A B):=⟨λk=>Br.mk (λh=>(f h).1 (k.1 h)) (λh=>(g h).1 (k.2 h))⟩
theorem Wbt{c:Bool}{A B a:Prop}(h:c=true)(f:Wk a A):Wk a (Br c A B):=⟨λk=>Br.litT h (f.1 k)⟩
theorem Wbf{c:Bool}{A B a:Prop}(h:c=false)(f:Wk a B):Wk a (Br c A B):=⟨λk=>Br.litF h (f.1 k)⟩
theorem Wtr:Wk True True:=⟨λh=>h⟩
theorem Wro{n:Nat}{f b:Nat->List SV}{a:Prop}(k:Wk a (∀i,i<n->f i=b i)):Wk a (∀i,i<n->Fl (f i) (b i)):=⟨λh=>RQ (k.1 h)⟩
structure Hu (p:Prop):Prop where
 out:p
theorem Iu{p a:Prop}(f:p->a):Hu p->a:=λh=>f h.1
theorem Wub{p q a:Prop}(f:p->Wk a q):Wk (Hu p->a) (Ub p q):=⟨λk=>Ub.mk λh=>(f h).1 (k ⟨h⟩)⟩
theorem Wal{p a:SlH->Prop}(f:∀v,Wk (a v) (p v)):Wk (∀v,a v) (QL p):=⟨λk=>QL.mk λv=>(f v).1 (k v)⟩
theorem Wla{x y:Option Entry}(h:x=y):Wk True (QQ x y):=⟨λ_=>QQ.mk h⟩
def Wnp(h:SlH->Prop):SlH->Prop:=h
theorem Wlf{p:Prop}:Wk (Lf p) p:=⟨Eq.mp (Le p)⟩
theorem Wsa{q p:Prop}(h:Wk q (KM p)):Wk q (KM p):=h
theorem Wse{q:Prop}{α:Type}{a b:α}(h:Wk q (a=b)):Wk q (a=b):=h
theorem Wsf{q:Prop}(h:Wk q False):Wk q False:=h
theorem Wsl{q:Prop}{a b:Option Entry}(h:Wk q (QQ a b)):Wk q (QQ a b):=h
theorem Wsk{q:Prop}{k:IntKind}{n:Int}(h:Wk q (AD k n)):Wk q (AD k n):=h
universe u
theorem Wsx{q:Prop}{α:Sort u}{p:α->Prop}(h:Wk q (∃x,p x)):Wk q (∃x,p x):=h
theorem Wsp{q:Prop}{α:Sort u}{p:α->Prop}(h:Wk q (∀x,p x)):Wk q (∀x,p x):=h
theorem WlA{a x:Prop}(f:Wk a x):Wk a (KM x):=⟨λh=>KM.mk (f.1 h)⟩
theorem Up{p:Prop}(h:p):Wk True p:=⟨λ_=>h⟩
theorem AB{p:Prop}(q:Prop)(a:q)(h:Wk q p:=by
 repeat'(first
  |(with_reducible refine' Was ?hx ?_
    case hx=>first|exact trivial|exact λ_=>trivial)
  |with_reducible refine' Wan ?_ ?_
  |(with_reducible refine' Wbt ?hx ?_
    case hx=>exact(Eq.refl true))
  |(with_reducible refine' Wbf ?hx ?_
    case hx=>exact(Eq.refl false))
  |with_reducible refine' Wbr (λh=> ?_) (λh=> ?_)
  |with_reducible exact Wtr
  |with_reducible refine' Wro ?_
  |with_reducible refine' Wub (λhu=> ?_)
  |with_reducible refine' Wal (λv=> ?_)
  |(with_reducible refine' Wla ?hx
    case hx=>exact rfl)
  |(fail_if_success (with_reducible first|refine' Wsa ?_|refine' Wse ?_|refine' Wsf ?_|refine' Wsx ?_|refine' Wsp ?_|refine' Wsk ?_|refine' Wsl ?_|refine' Wnp ?_)
    conv=>arg 2;whnf))
 all_goals(try with_reducible refine' WlA ?_)
 all_goals(try first|exact Up trivial|exact Up (λ_=>trivial))
 all_goals(try((conv=>arg 2;dsimp only);try with_reducible first|exact Wtr|exact Up rfl))
 all_goals(try exact Wlf)):p:=h.1 a
theorem AH{p:Prop}(q:Prop)(a:q)(h:Wk q p:=by
 repeat'(first
  |(with_reducible refine' Was ?hx ?_
    case hx=>first|exact trivial|exact λ_=>trivial)
  |with_reducible refine' Wan ?_ ?_
  |(with_reducible refine' Wbt ?hx ?_
    case hx=>exact(Eq.refl true))
  |(with_reducible refine' Wbf ?hx ?_
    case hx=>exact(Eq.refl false))
  |with_reducible refine' Wbr (λh=> ?_) (λh=> ?_)
  |with_reducible exact Wtr
  |with_reducible refine' Wub (λhu=> ?_)
  |with_reducible refine' Wal (λv=> ?_)
  |(with_reducible refine' Wla ?hx
    case hx=>exact rfl)
  |(fail_if_success (with_reducible first|refine' Wsa ?_|refine' Wse ?_|refine' Wsf ?_|refine' Wsx ?_|refine' Wsp ?_|refine' Wsk ?_|refine' Wsl ?_|refine' Wnp ?_)
    conv=>arg 2;whnf))
 all_goals(try with_reducible refine' WlA ?_)
 all_goals(try first|exact Up trivial|exact Up (λ_=>trivial))
 all_goals(try((conv=>arg 2;dsimp only);try with_reducible first|exact Wtr|exact Up rfl))
 all_goals(try exact Wlf)):p:=h.1 a
theorem X0c{p q a:Prop}(f:p->Wk a q):Wk (p->a) (Ub p q):=⟨λk=>Ub.mk λh=>(f h).1 (k h)⟩
theorem X0a{p:Prop}(q:Prop)(a:q)(h:Wk q p:=by
 repeat'(first
  |(with_reducible refine' Was ?hx ?_
    case hx=>first|exact trivial|exact λ_=>trivial)
  |with_reducible refine' Wan ?_ ?_
  |(with_reducible refine' Wbt ?hx ?_
    case hx=>exact(Eq.refl true))
  |(with_reducible refine' Wbf ?hx ?_
    case hx=>exact(Eq.refl false))
  |with_reducible refine' Wbr (λh=> ?_) (λh=> ?_)
  |with_reducible exact Wtr
  |with_reducible refine' Wro ?_
  |with_reducible refine' X0c (λh=> ?_)
  |with_reducible refine' Wal (λv=> ?_)
  |(with_reducible refine' Wla ?hx
    case hx=>exact rfl)
  |(fail_if_success (with_reducible first|refine' Wsa ?_|refine' Wse ?_|refine' Wsf ?_|refine' Wsx ?_|refine' Wsp ?_|refine' Wsk ?_|refine' Wsl ?_|refine' Wnp ?_)
    conv=>arg 2;whnf))
 all_goals(try with_reducible refine' WlA ?_)
 all_goals(try first|exact Up trivial|exact Up (λ_=>trivial))
 all_goals(try((conv=>arg 2;dsimp only);try with_reducible first|exact Wtr|exact Up rfl))
 all_goals(try exact Wlf)):p:=h.1 a
theorem X0b{p:Prop}(q:Prop)(a:q)(h:Wk q p:=by
 repeat'(first
  |(with_reducible refine' Was ?hx ?_
    case hx=>first|exact trivial|exact λ_=>trivial)
  |with_reducible refine' Wan ?_ ?_
  |(with_reducible refine' Wbt ?hx ?_
    case hx=>exact(Eq.refl true))
  |(with_reducible refine' Wbf ?hx ?_
    case hx=>exact(Eq.refl false))
  |with_reducible refine' Wbr (λh=> ?_) (λh=> ?_)
  |with_reducible exact Wtr
  |with_reducible refine' X0c (λh=> ?_)
  |with_reducible refine' Wal (λv=> ?_)
  |(with_reducible refine' Wla ?hx
    case hx=>exact rfl)
  |(fail_if_success (with_reducible first|refine' Wsa ?_|refine' Wse ?_|refine' Wsf ?_|refine' Wsx ?_|refine' Wsp ?_|refine' Wsk ?_|refine' Wsl ?_|refine' Wnp ?_)
    conv=>arg 2;whnf))
 all_goals(try with_reducible refine' WlA ?_)
 all_goals(try first|exact Up trivial|exact Up (λ_=>trivial))
 all_goals(try((conv=>arg 2;dsimp only);try with_reducible first|exact Wtr|exact Up rfl))
 all_goals(try exact Wlf)):p:=h.1 a
theorem X0d{p:Prop}(h:p:=by
 refine' X0a _ ?_;(repeat' first|constructor|intro h)<;>refine' Lm ?_
 all_goals first|exact A6|skip):p:=h
theorem X0e{p:Prop}(h:p:=by
 refine' X0a _ ?_;(repeat' first|constructor|intro h)<;>refine' Lm ?_
 all_goals first|exact Aw|skip):p:=h
theorem X0f{p:Prop}(h:p:=by
 refine' X0a _ ?_;(repeat' first|constructor|intro h)<;>refine' Lm ?_
 all_goals(first|rfl|exact A4)):p:=h
theorem X0g{p:Prop}(h:p:=by
 refine' X0a _ ?_;(repeat' first|constructor|intro h)<;>refine' Lm ?_
 all_goals first|exact Aw):p:=h
theorem X0h{p:Prop}(h:p:=by
 refine' X0a _ ?_;(repeat' first|constructor|intro h)<;>refine' Lm ?_
 all_goals(try simp only[HA,CI]at*)
 all_goals(first
  |exact Ba
  |skip)):p:=h
theorem X1a{p:Prop}(h:p:=by
 refine' X0a _ ?_;(repeat' first|constructor|intro h)<;>refine' Lm ?_
 all_goals(first
  |exact Ab
  |exact Bf
  |omega
  |skip)):p:=h
theorem X1b{p:Prop}(h:p:=by
 refine' X0a _ ?_;(repeat' first|constructor|intro h)<;>refine' Lm ?_
 all_goals first|exact A2|exact Ai|skip):p:=h
theorem X1c{p:Prop}(h:p:=by
 refine' X0a _ ?_;(repeat' first|constructor|intro h)<;>refine' Lm ?_
 all_goals(first
  |exact Aq
  |skip)):p:=h
theorem X1d{p:Prop}(h:p:=by
 refine' X0a _ ?_;(repeat' first|constructor|intro h)<;>refine' Lm ?_
 all_goals first|exact A2|skip):p:=h
theorem X1e{p:Prop}(h:p:=by
 refine' X0a _ ?_;(repeat' first|constructor|intro h)<;>refine' Lm ?_
 all_goals first|exact Bu|skip):p:=h
theorem X1f{p:Prop}(h:p:=by
 refine' X0a _ ?_;(repeat' first|constructor|intro h)<;>refine' Lm ?_
 all_goals first|exact Aq|skip):p:=h
theorem X1g{p:Prop}(h:p:=by
 refine' X0a _ ?_;(repeat' first|constructor|intro h)<;>refine' Lm ?_
 all_goals first|exact Bv|skip):p:=h
theorem X1h{p:Prop}(h:p:=by
 refine' X0a _ ?_;(repeat' first|constructor|intro h)<;>refine' Lm ?_
 all_goals first|exact Ab|exact(N2 _).symm|skip):p:=h
theorem X2a{p:Prop}(h:p:=by
 refine' X0a _ ?_;(repeat' first|constructor|intro h)<;>refine' Lm ?_
 all_goals(first
  |exact g
  |rfl
  |skip)):p:=h
theorem X2b{p:Prop}(h:p:=by
 refine' X0b _ ?_;(repeat' first|constructor|intro h)<;>refine' Lm ?_
 all_goals first|exact Ay|skip):p:=h
theorem X2c{p:Prop}(h:p:=by
 refine' X0b _ ?_;(repeat' first|constructor|intro h)<;>refine' Lm ?_
 all_goals first|exact Ap|skip):p:=h
theorem X2d{p:Prop}(h:p:=by
 refine' X0b _ ?_;(repeat' first|constructor|intro h)<;>refine' Lm ?_
 all_goals(try simp only[q,u,v,Jn])
 all_goals first|rfl|omega|exact e|exact A5|skip):p:=h
theorem X2e{p:Prop}(h:p:=by
 refine' X0b _ ?_;(repeat' first|constructor|intro h)<;>refine' Lm ?_
 all_goals first
  |exact Ap
  |skip):p:=h
theorem X2f{p:Prop}(h:p:=by
 refine' X0b _ ?_;(repeat' first|constructor|intro h)<;>refine' Lm ?_
 all_goals first|exact A6|exact A5|skip):p:=h
theorem X2g{p:Prop}(h:p:=by
 refine' X0b _ ?_;(repeat' first|constructor|intro h)<;>refine' Lm ?_
 all_goals first|exact Ay|omega|skip):p:=h
theorem X2h{p:Prop}(h:p:=by
 refine' X0b _ ?_;(repeat' first|constructor|intro h)<;>refine' Lm ?_
 all_goals first
  |exact Ap
  |exact Ag
  |skip):p:=h
theorem X3a{p:Prop}(h:p:=by
 refine' X0b _ ?_;(repeat' first|constructor|intro h)<;>refine' Lm ?_
 all_goals(try simp only[Jn,DH])
 all_goals first|exact Ad|skip):p:=h
theorem X3b{p:Prop}(h:p:=by
 refine' X0b _ ?_;(repeat' first|constructor|intro h)<;>refine' Lm ?_
 all_goals(try simp only[If,Ig,DH,O]at*)
 all_goals(try first
  |exact A3
  |(intro _ _;left;rw[<-kE]))):p:=h
theorem X3c{p:Prop}(h:p:=by
 refine' X0b _ ?_;(repeat' first|constructor|intro h)<;>refine' Lm ?_
 all_goals(try simp only[Jn])
 all_goals first|exact Bt|skip):p:=h
theorem X3d{p:Prop}(h:p:=by
 refine' X0b _ ?_;(repeat' first|constructor|intro h)<;>refine' Lm ?_
 all_goals(try simp only[Jn,t,o,k1.1])
 all_goals first|exact Bt|skip):p:=h
theorem X3e{p:Prop}(h:p:=by
 refine' X0b _ ?_;(repeat' first|constructor|intro h)<;>refine' Lm ?_
 all_goals(try simp only[Jn,t,w,o,k1.1])
 all_goals first|exact Bt|skip):p:=h
theorem X3f{p:Prop}(h:p:=by
 refine' X0a _ ?_;(repeat' first|constructor|intro h)<;>refine' Lm ?_
 all_goals first|exact Ab|skip):p:=h
theorem X3g{p:Prop}(h:p:=by
 refine' X0a _ ?_;(repeat' first|constructor|intro h)<;>refine' Lm ?_
 all_goals first|exact Ab|omega|skip):p:=h
section
open Go.RowKit
theorem c4a{P:Program}{w:World}{n:String}{g:Nat}{cs:Array Value}(a:P.globalNamed n=some g)(h:w.var? P n=some cs):g<w.heap.size:=by
 simp only[World.var?,a,Lw]at h;split at h
 .rename_i b;exact(Kk.1 b).1
 .cases h
theorem c4k:laidOutB Tryz.prog=true:=Dy
theorem b5r{W:World}{A:Nat->Prop}(j:∀b,¬A b){n:String}{g g0:Nat}{t:TypeId}{cs:Array Value}{fuel:Nat}{d:DataW Unit}{p:List MemPlace}{sz m:Nat}{f:Nat->List SV}
 (h:Tryz.prog.globalNamed n=some g) (l:(Tryz.prog.globals[g]?).map (·.type)=some t) (i:W.var? Tryz.prog n=some cs) (o:DataW.trod (λ_=>()) Tryz.prog W 0 (λ_=>true) false fuel t cs.toList=some (d,p))
 (q:Tryz.prog.globalNamed n=some g0) (a:(Tryz.prog.globals[g0]?).map (λc=>Yi Tryz.prog 10 c.type&&isVar Tryz.prog c.type)=some true) (r:VV d=true) (s:0<m) (u:d1f sz m f (WB d)=true):
 (SV.rel sz m f 0 0).pure=true/\D W A BN (.rel sz m f 0 0) (.pointer (some ⟨g0,0,none⟩)):=by
 obtain rfl:=Kf (q.symm.trans h);obtain⟨c,v,rfl⟩:=Jc.1 l;rw[v]at a;simp only[Kh,K0,K6]at a;have e:=d1b c4k fuel c.type cs.toList (d,p) 10 a.1 a.2 o r;refine c20 (cs:=cs.toList) s (j g0) (c4a h i) (λk=> ?_) (by rw[e];exact u);rw[World.var?_cell h i k];simp
open Classical in
noncomputable def SB(F:Fam):List SV->Option (Prop×SV):=λzs=>if∃i,F.pre i/\zs=F.args i then some (True,.bool true)else none
theorem d3t{f:FuncId}{F:Fam}(this:PS f (SB F))(i:F.ι)(c:F.pre i)
 {w:World} {vals:List Value} (d:∀g t,QD g=some t->t.pure=true/\D w (λ_=>False) BN t (.pointer (some ⟨g,0,none⟩))) (j:DL w (λ_=>False) BN (F.args i) vals):
 Calls Tryz.prog f vals.toArray w λe a=>e=.returned (.bool true)/\Fr w.heap.size (λ_=>False) w a:=by
 refine(this.2 (λ_=>False) w (F.args i) vals True (.bool true) (λb h=>h.elim) d j ?_ trivial).mono ?_
 .unfold SB;rw[J7 ⟨i,c,rfl⟩]
 .rintro e a ⟨v,rfl,k,l⟩;cases k;exact⟨rfl,l⟩
theorem top{f:FuncId}{fn:Func}(c:Cs)(hc:c.OK)(F:Fam)(I:F.ι->Nat->Option Inv)(g9:∀i,F.res i=.bool true)(bi:∀i,BT (F.args i) (F.args i))(ba:∀i,(F.args i).length<=fn.ntmps)
 (hf:Tryz.prog.funcs[f]?=some fn) (hb:fn.body.isSome=true) (hn:(fn.name== "runtime.NumGoroutine")=false) (fj:JF c.c2 (PU c.gr) (fn.body.getD .skip)=true)
 (H:∀i,F.pre i->EZ (EX c.l c.x c.h c.fz c.c2 c.gr 0 (λ_=>true) (λ_=>none) c.fs) fn.ntmps (I i) (fn.body.getD .skip) ⟨NB (EX c.l c.x c.h c.fz c.c2 c.gr 0 (λ_=>true) (λ_=>none) c.fs) fn (F.res i),λ_ _=>False,NB (EX c.l c.x c.h c.fz c.c2 c.gr 0 (λ_=>true) (λ_=>none) c.fs) fn (F.res i)⟩ ⟨MG 0 (F.args i),[]⟩) (i:F.ι) (hp:F.pre i)
 {w:World} {vals:List Value} (hg:∀g t,QD g=some t->t.pure=true/\D w (λ_=>False) BN t (.pointer (some ⟨g,0,none⟩))) (hD:DL w (λ_=>False) BN (F.args i) vals):
 Calls Tryz.prog f vals.toArray w λe w'=>e=.returned (.bool true)/\Fr w.heap.size (λ_=>False) w w':=by
 have:=LL c hc F I (SB F) (λzs p s hk hp=>by
  unfold SB at hk;split at hk
  .rename_i Zj;obtain⟨i,hi,rfl⟩:=Zj;cases hk;exact⟨i,bi i,hi,(g9 i).symm⟩
  .cases hk) ba hf hb hn fj H
 exact d3t this i hp hg hD
theorem b51{w w':World}(h:Fr w.heap.size (λ_=>False) w w'):Below w.heap.size w w':=⟨h.os,h.tape,h.output,h.size,λk a=>h.block k a (λh=>h)⟩
theorem b33{H:Type}{enc:TypeId×Value->H}{P:Program}(e:laidOutB P=true){W f:World}(g:Below W.heap.size W f):∀{ts:List TypeId} {vs:List Value} {a:List (DataW H)} {ps:List MemPlace},
 (ts.all λt=>P.readableRec t&&decide (t<P.types.size))=true->DataW.TrodAll enc P W 0 (λ_=>true) true ts vs a ps->(∀x∈ps,x.block<W.heap.size)->DataW.TrodAll enc P f 0 (λb=>decide (b<W.heap.size)) true ts vs a ps
 | [],vs,a,ps,_,h,_=>by obtain⟨rfl,rfl,rfl⟩:=Go.ChangeShapes.trodAll_nil h;rfl
 |t::ts,vs,a,ps,c,h,i=>by obtain⟨v,vs',d,ds',p,q,rfl,rfl,rfl,j,k⟩:=Go.ChangeShapes.trodAll_cons h;simp only[List.all_cons,Ip]at c;exact⟨p,q,Below.trod e c.1.1 c.1.2 j g (λx hx=>i x Eh),b33 e g (by simpa using c.2) k (λx hx=>i x Eh),rfl⟩
theorem c88{H:Type}{enc:TypeId×Value->H}{P:Program}(l:laidOutB P=true){a:Func}{s:ChangeSpec}{tb:TypeId}{W f:World}{args:Array Value}{b g:List (DataW H)}{before:List MemPlace}(i:s.vars=[])(m:a.resultTypes= #[tb])(c:P.underlying tb=some .bool)
 (d:s.fn H (b++g)={results:=[.lit (.bool true)],args:=b}) (n:(a.params.toList.all λt=>P.readableRec t&&decide (t<P.types.size))=true) (e:DataW.Whole enc P a.params.toList s.vars false W args.toList b g before) (j:Below W.heap.size W f):
 s.post enc P a false true false false W args (.bool true) f:=by
 have o:=e;obtain⟨p,q,r,k,rfl,Y3,ny⟩:=o;rw[i]at k;obtain⟨rfl,rfl⟩:=Go.ChangeShapes.trodVars_none k;refine⟨b,[],p++[],[],p,[],e,?_,?_,?_,j.frame _,λh=>E9⟩
 .rw[d,m];exact Go.ChangeShapes.trodAll_mk1 (shut_bool c true)
 .rw[d];refine b33 l j n r (λx hx=> ?_);have:=e.lt x Eh;simpa using this
 .rw[d,i];rfl
end
end Go.Proofs.YtaihldljnlgnoaaGreatDoor.V
