/-
  Parts of the proof: V18 V19 R1 V20 M2 S1 S2 R2. Conditions: none.
-/
import Derived.Test.YtaihldljnlgnoaaGreatDoorSmc4
import Derived.ProofKit
import Derived.LaidMore
import Derived.LaidHandle
import Derived.OpenShut
import Derived.Carry
import Derived.Stop.Joined
import Derived.WideKeyRuns
import Derived.Test.YtaihldljnlgnoaaGreatDoorRows
import Derived.Test.YtaihldljnlgnoaaGreatDoorChecked
set_option maxRecDepth 100000
set_option maxHeartbeats 40000000
namespace Go.Proofs.YtaihldljnlgnoaaGreatDoor.V
open Go
def BN:List SV->List SV->Prop
 | [],[]=>True
 |s::r,t::q=>s.le2 t/\BN r q
 |_,_=>False
theorem b40:∀{cs a:List SV},BN cs a->cs.length=a.length/\∀(i:Nat) (t:SV),a[i]?=some t->∃s,cs[i]?=some s/\s.le2 t
 | [],[],_=>⟨rfl,λi t h=>Ee⟩
 |s::r,t::q,h=>by
  obtain⟨h1,b⟩:=b40 h.2;refine⟨Eu,λi c ht=> ?_⟩;match i with
  |0=>simp at ht;subst ht;exact⟨s,rfl,h.1⟩
  |i+1=>simpa using b i c Fi
 | [],_::_,h=>h.elim
 |_::_,[],h=>h.elim
def MI(n:Nat):List SV->List Entry
 | []=>[]
 |s::r=>⟨n,none,s⟩::MI (n+1) r
theorem b5d{t:Nat}{e:Entry}:∀(l:List SV) (n:Nat),CD t (MI n l)=some e->e.guard=none/\n<=t/\l[t-n]?=some e.sv:=by
 intro l;induction l with
 |nil=>intro n h;simp[MI,CD]at h
 |cons s r a=>
  intro n h;simp only[MI,CD]at h;split at h
  .rename_i b;cases h;subst b;exact⟨rfl,Jm _,E6⟩
  .obtain⟨c,h2,d⟩:=a (n+1) h;refine⟨c,E4,?_⟩;rw[show t-n=(t-(n+1))+1 from E4];simpa using d
def UH(E:Env)(st:St):ResultVar->Option SV
 |.tmp t=>(CE E st.ρ none (.tmp t)).bind (SV.roA st.own)
 |.cell t T=>(CE E st.ρ none (.tmp t)).bind λp=>match p with
  |.own k o=>(UA E.P st.own T (.own k o)).bind λr=>r.2.roA st.own
  |_=>none
def d97(E:Env)(a:Func)(st:St):Option SV:=match a.results.toList with
 | [r]=>UH E st r
 |b=>(b.mapM (UH E st)).map .tup
def NA(E:Env)(a:Func)(s:SV)(st:St):Prop:=match d97 E a st with
 |some r=>r.le2 s
 |none=>False
structure Fam where
 ι:Type
 args:ι->List SV
 pre:ι->Prop
 res:ι->SV
def RO(F:Fam)(k:List SV->Option (Prop×SV)):Prop:=∀a p s,k a=some (p,s)->p->∃i,BN a (F.args i)/\F.pre i/\s=F.res i
section
variable{E:Env}
def RM(tmps:Array Value):ResultVar->Sem Value
 |.tmp t=>pure (tmps.getD t undef)
 |.cell a t=>do loadVar t (<-asAddr (tmps.getD a undef))
theorem b3m(c:Func)(tmps:Array Value):results c tmps=(do let b<-c.results.mapM (RM tmps);pure (if h:b.size=1 then b[0]else .tuple b)):=by
 unfold results;have:RM tmps=λ(r:ResultVar)=>(match r with
  |.tmp t=>pure (tmps.getD t undef)
  |.cell a t=>do loadVar t (<-asAddr (tmps.getD a undef)):Sem Value):=by
  funext r;cases r<;>rfl
 rw[this];rfl
variable{B0:Nat}{X A:Nat->Prop}{w0:World}{nt:Nat}{st:St}{a:Act}{w:World}{μ:Mu}
theorem b7i(h:SD E B0 X A w0 nt st a w μ){r:ResultVar}{s:SV}(c:UH E st r=some s):∃v,(RM a.tmps r).run E.P w=.ok v w/\D w A BK s v:=by
 have d:=h.opds (g:=none) (λq b e=>Eb);have ro:∀{s t:SV} {v:Value},D w (held A μ) μ s v->s.roA st.own=some t->D w A BK t v:=λf m=>Wa h.own (λ_ _ h=>h) (λ_ h=>.inl h) f m (λ_ _ h=>h);cases r with
 |tmp t=>
  simp only[UH,Jn]at c;obtain⟨x,y,c⟩:=c;exact⟨_,rfl,ro (d _ _ y) c⟩
 |cell t T=>
  simp only[UH,Jn]at c;obtain⟨p,z,c⟩:=c;split at c
  .rename_i k o;simp only[Jn]at c;obtain⟨⟨q,x⟩,i,c⟩:=c;have B:q:=by
    simp only[UA,J3,Ir]at i;obtain⟨n,_,cs,_,s',_,rfl,_⟩:=i;exact Ji
   have j:=d _ _ z;obtain⟨u,l,f⟩:=b3h h.own (λ_ _ h=>h) j i B;refine⟨u,?_,ro f c⟩;generalize C:a.eval (.tmp t)=v at j l;have F:a.tmps.getD t undef=v:=C;cases j with
   |own hk=>
    simp only[RM,F,asAddr,Is];simpa[Instr.loadAt,Instr.sureAddr]using l
  .cases c
theorem c4b(h:SD E B0 X A w0 nt st a w μ):∀(l:List ResultVar) (b:List SV),l.mapM (UH E st)=some b->∃c,(l.mapM (RM a.tmps)).run E.P w=.ok c w/\DL w A BK b c:=by
 intro l;induction l with
 |nil=>intro b h;simp at h;subst h;exact⟨[],E6,rfl,λi s v h=>Ee⟩
 |cons r l g=>
  intro b hs;simp only[M9,J3,Option.pure_def,K6]at hs;obtain⟨s1,j,d,k,rfl⟩:=hs;obtain⟨v,hv,m⟩:=b7i h j;obtain⟨c,wi,f⟩:=g d k;refine⟨v::c,I6,by simp[f.1],λi s n hs e=> ?_⟩;match i with
  |0=>simp at hs e;subst hs e;exact m
  |i+1=>exact f.2 i s n G2 (by simpa using e)
theorem b50(h:SD E B0 X A w0 nt st a w μ){c:Func}{s:SV}(b:d97 E c st=some s):∃v,(results c a.tmps).run E.P w=.ok v w/\D w A BK s v:=by
 rw[b3m,L9,Array.mapM_eq_mapM_toList,Sem.run_map];unfold d97 at b;split at b
 .rename_i r g;obtain⟨v,i,j⟩:=b7i h b;refine⟨v,?_,j⟩;rw[g,M9,L9,i];simp
 .rename_i rs k;simp only[Jk]at b;obtain⟨l,f,rfl⟩:=b;obtain⟨d,m,e⟩:=c4b h _ l f;refine⟨.tuple d.toArray,?_,.tup d e.1 e.2⟩;rw[m];obtain⟨n,_⟩:=OM f;have o:d.length≠1:=by
   rw[e.1,n];intro p;match hl:c.results.toList,p with
   | [r],_=>exact k r hl
  simp[o]
theorem verify{P:Program}{glob:Nat->Option SV}{f:FuncId}{fn:Func}{code:Code}(E:Env)(Pe:E.P=P)(Q0:E.glob=glob)(R8:E.na=0)(hE:EnvOK E)(hC:GM E)(hm:P.follows .mixedOrders=true)(hf:P.funcs[f]?=some fn)(hb:fn.body=some code)(hn:(fn.name== "runtime.NumGoroutine")=false)
 (F:Fam) (I:F.ι->Nat->Option Inv) (k:List SV->Option (Prop×SV)) (hk:RO F k) (be:∀i,(F.args i).length<=fn.ntmps) (f9:JH E.c2 (PZ E.gr) code=true)
 (H:∀i,F.pre i->EZ E fn.ntmps (I i) code ⟨NA E fn (F.res i),λ_ _=>False,NA E fn (F.res i)⟩ ⟨MI 0 (F.args i),[]⟩):c82 P glob f k:=by
 subst Pe Q0;refine⟨⟨fn,hf,hn,by rw[hb];rfl⟩,λA w args vals pre s hA hg hD hr hp=> ?_⟩;obtain⟨i,bi,db,rfl⟩:=hk args pre s hr hp;obtain⟨l1,l2⟩:=b40 bi;have sw:vals.length<=fn.ntmps:=Hb;refine calls_of_wp hf hb ?_;have hS:SD E w.heap.size (λ_=>False) A w fn.ntmps ⟨MI 0 (F.args i),[]⟩ {tmps:=vals.toArray++Array.replicate (fn.ntmps-vals.toArray.size) undef,defers:=[]} w BK:=by
  refine⟨⟨λk x h=>Eg,λk k' x x' b h=>Eg,λk x b h=>Eg,hA⟩,Fr.refl _ _ _,Jm _,λg s rx=>⟨(hg g s rx).1,?_⟩,rfl,Ed,λt e he=> ?_,λ_ _=>rfl,λk x hx=>I7⟩
  .exact Dm
  .obtain⟨h1,_,h3⟩:=b5d _ _ he;unfold CU;rw[h1];simp only;rw[ML he];have b6:t<(F.args i).length:=(Jh.1 h3).1;obtain⟨s0,bv,ra⟩:=l2 t e.sv Gs;have ti:t<vals.length:=Hd;have hd:=hD.2 t s0 vals[t] bv (Je ti);have du:(vals.toArray++Array.replicate (fn.ntmps-vals.toArray.size) undef).getD t undef=vals[t]:=by
    simp[Array.getElem?_append,ti]
   rw[du];have:=RC hd ra;exact Dn
 refine b68 hE hC hm code (I i) ⟨NA E fn (F.res i),λ_ _=>False,NA E fn (F.res i)⟩ _ _ _ w BK f9 hS ⟨λst a w' μ hs hr=> ?_,λi st a w' μ hs hr=>hr.elim,λst a w' μ hs hr=> ?_⟩ (H i db);all_goals
  replace hr:NA E fn (F.res i) st:=hr;unfold NA at hr;split at hr
  .rename_i r fy;obtain⟨v,hv,hd⟩:=b50 hs fy;exact⟨hs.dfr,v,hv,v,rfl,RC hd hr,hs.fr⟩
  .exact hr.elim
def d0p(st:St):SV->Prop
 |.osl k=>match st.own[k]? with
  |some (.row _ _ n f _)=>∀i,i<n->(f i).all SV.flat0=true
  |_=>False
 |.sl _ n _ _=>n=0
 |s=>if s.flat0 then True else False
def Sf(E:Env)(a:Func)(s:SV)(st:St):Prop:=match a.results.toList with
 | [.tmp t]=>match CE E st.ρ none (.tmp t)with
   |some b=>d0p st b/\NA E a s st
   |none=>False
 |_=>False
theorem d18{w:World}{H:Nat->Prop}{μ:Mu}{x:Value}{T:TypeId}{sz n:Nat}{f:Nat->List SV}{c:Option Nat}{B:Nat}(hx:∀b,CG x b->¬b<B)(l:∀i,i<n->(f i).all SV.flat0=true)(h:DE w H μ x (.row T sz n f c)):D w (λb=>b<B) BK (.sl sz n f c) x:=by
 obtain⟨a,m,rfl,hn,hm,hc,hl,q⟩:=h;rcases q with rfl|⟨b,o,e,r,rfl,g,ho,h1,t⟩
 .exact Cu
 .have u:=hx b (KA r);have k:∀i j,i<n->j<sz->o+i*sz+j<e.length:=λi j hi d=>by
   have:=MA hi d;have:n*sz<=m*sz:=Ks _ hn;omega
  refine .sl _ b o m (λi j=>e.getD (o+i*sz+j) undef) hn hm hc (λ_=>⟨rfl,u,PY g,λi j hi d=> ?_⟩) hl (λi j s hi hs=> ?_)
  .have:=k i j hi d;rw[SR g,Je this];simp only[J4,Je this];exact Cv
  .have d:j<sz:=Gf;have:=k i j hi d;simp only[J4,Je this];exact Wn (Jp.1 (l i hi) s (Jj hs)) (t i j s _ hi hs (Je this))
theorem c4f(h:SD E B0 (λ_=>False) A w0 nt st a w μ){s t:SV}{v:Value}(q:D w (held A μ) μ s v)(l:s.roA st.own=some t)(d:d0p st s):D w (λb=>b<B0) BK t v:=by
 unfold d0p at d;split at d
 .rename_i k;split at d
  .rename_i T y n f c u;simp only[SV.roA,SV.ro,SV.ro1,u,K6]at l;subst l;cases q with
   |osl p=>
   obtain⟨bl,e,z⟩:=h.own.blk _ _ p;rw[u]at e;cases e;refine d18 (λb B b6=> ?_) d z;rcases(h.own.rng _ _ b p B).2.2 with x|x
   .omega
   .exact x
  .exact d.elim
 .rename_i y n f c;subst d;simp only[SV.roA,SV.ro,SV.ro1,K6]at l;subst l;cases q with
  |sl a b o m g C hx F b7 G hD=>exact .sl a b o m g C hx F (λh=>absurd h (M1 _)) G (λi j s H=>absurd H (K3 _))
 .split at d
  .rename_i r;have r:s.flat0=true:=r;have I:D w A BK t v:=Wa h.own (λ_ _ h=>h) (λ_ h=>.inl h) q l (λ_ _ h=>h);have:t.flat0=true:=by
    revert l r;cases s<;>simp_all[SV.flat0,SV.roA,SV.ro,SV.ro1]
    all_goals(intros;subst_vars;simp_all[])
   exact Wn this I
  .exact d.elim
theorem f6x{P:Program}{glob:Nat->Option SV}{f:FuncId}{fn:Func}{code:Code}(E:Env)(Pe:E.P=P)(Q0:E.glob=glob)(R8:E.na=0)(hE:EnvOK E)(hC:GM E)(hm:P.follows .mixedOrders=true)(hf:P.funcs[f]?=some fn)(hb:fn.body=some code)(hn:(fn.name== "runtime.NumGoroutine")=false)
 (F:Fam) (I:F.ι->Nat->Option Inv) (k:List SV->Option (Prop×SV)) (hk:RO F k) (be:∀i,(F.args i).length<=fn.ntmps) (f9:JH E.c2 (PZ E.gr) code=true)
 (H:∀i,F.pre i->EZ E fn.ntmps (I i) code ⟨Sf E fn (F.res i),λ_ _=>False,Sf E fn (F.res i)⟩ ⟨MI 0 (F.args i),[]⟩):c82 P glob f k/\c7r P glob f k:=by
 subst Pe Q0;refine⟨⟨⟨fn,hf,hn,by rw[hb];rfl⟩,?_⟩,?_⟩;all_goals
  intro A w args vals pre s hA hg hD hr hp;obtain⟨i,bi,db,rfl⟩:=hk args pre s hr hp;obtain⟨l1,l2⟩:=b40 bi;have sw:vals.length<=fn.ntmps:=Hb;refine calls_of_wp hf hb ?_;have hS:SD E w.heap.size (λ_=>False) A w fn.ntmps ⟨MI 0 (F.args i),[]⟩ {tmps:=vals.toArray++Array.replicate (fn.ntmps-vals.toArray.size) undef,defers:=[]} w BK:=by
   refine⟨⟨λk x h=>Eg,λk k' x x' b h=>Eg,λk x b h=>Eg,hA⟩,Fr.refl _ _ _,Jm _,λg s rx=>⟨(hg g s rx).1,?_⟩,rfl,Ed,λt e he=> ?_,λ_ _=>rfl,λk x hx=>I7⟩
   .exact Dm
   .obtain⟨h1,_,h3⟩:=b5d _ _ he;unfold CU;rw[h1];simp only;rw[ML he];have b6:t<(F.args i).length:=(Jh.1 h3).1;obtain⟨s0,bv,ra⟩:=l2 t e.sv Gs;have ti:t<vals.length:=Hd;have hd:=hD.2 t s0 vals[t] bv (Je ti);have du:(vals.toArray++Array.replicate (fn.ntmps-vals.toArray.size) undef).getD t undef=vals[t]:=by
     simp[Array.getElem?_append,ti]
    rw[du];have:=RC hd ra;exact Dn
  refine b68 hE hC hm code (I i) ⟨Sf E fn (F.res i),λ_ _=>False,Sf E fn (F.res i)⟩ _ _ _ w BK f9 hS ⟨λst a w' μ hs hr=> ?_,λi st a w' μ hs hr=>hr.elim,λst a w' μ hs hr=> ?_⟩ (H i db);all_goals
   replace hr:Sf E fn (F.res i) st:=hr;unfold Sf at hr;split at hr;rotate_left
   .exact hr.elim
   rename_i t rp;split at hr;rotate_left
   .exact hr.elim
   rename_i s0 bv;obtain⟨bj,hr⟩:=hr;unfold NA at hr;split at hr
   .rename_i r fy;obtain⟨v,hv,hd⟩:=b50 hs fy;first
     |exact⟨hs.dfr,v,hv,v,rfl,RC hd hr,hs.fr⟩
     |(refine⟨hs.dfr,v,hv,v,rfl,?_,hs.fr⟩
       have jp:=hs.opds (g:=none) (λq b e=>Eb) _ _ bv;unfold d97 at fy;rw[rp]at fy;simp only[UH,bv,M0]at fy;have w8:a.eval (.tmp t)=v:=by rw[b3m,L9,Array.mapM_eq_mapM_toList,Sem.run_map,rp]at hv;simp[RM]at hv;show a.tmps.getD t undef=v;rw[<-hv];simp
       rw[w8]at jp;exact RC (c4f hs jp fy bj) hr)
   .exact hr.elim
end
section
variable{H:Type}{enc:TypeId × Value->H}{P:Program}{w:World}{base:Nat}{sp:Nat->Bool}{held:Bool}{fuel:Nat}{t:TypeId}{cs:List Value}{x:DataW H × List MemPlace}
theorem d58{k:IntKind}{n:Int}(h:(Lit.int k n).wf=true):AD k n:=by simp only[Lit.wf,Ix]at h;cases k<;>simp[IntKind.min,IntKind.max,IntKind.bits,IntKind.signed]at h<;>simp only[AD]<;>omega
theorem Pr{k:IntKind}(a:P.underlying t=some (.int k))(h:DataW.trod enc P w base sp held fuel t cs=some x):∃n,cs=[.int k n]/\AD k n:=by obtain⟨n,e,_,b⟩:=DataW.trod_int a h;exact⟨n,e,d58 b⟩
theorem b6b{fs:Array Field}(a:P.underlying t=some (.struct fs))(h:DataW.trod enc P w base sp held fuel t cs=some x):
 cs.length=P.cellsOf t/\∀f∈fs.toList,∃m y,DataW.trod enc P w base sp held m f.type ((cs.drop f.offset).take (P.cellsOf f.type))=some y:=by
 obtain⟨b,m,rfl,_,c,pb,hx⟩:=DataW.trod_struct a h;refine⟨c,λf d=> ?_⟩;obtain⟨i,hi,e⟩:=K7.1 d;have g:i<fs.size:=Ez;have:=hx i f (by rw[Mh g,<-e];simp);refine⟨m,b[i]'E4,?_⟩;rw[this,Je E4]
theorem c85(b o i:Nat):(⟨b,o,none⟩:Addr).add i=⟨b,o+i,none⟩:=by
 unfold Addr.add;split
 .rename_i h;subst h;rfl
 .rfl
theorem rd_sl{α:Type}(d0:α)(encS:α->List SV)(ok:α->Prop){e:TypeId}{sz:Nat}(L:P.underlying t=some (.slice e))(M:P.cellsOf e=sz)(H:0<sz){A:Nat->Prop}(N:∀b,¬A b)
 (O:∀m R y,DataW.trod enc P w base sp held m e R=some y->∃q,ok q/\(encS q).length=sz/\(encS q).all SV.pure=true/\(∀v∈R,v.oneCell'=true)/\∀(j:Nat) (s:SV) (v:Value),(encS q)[j]?=some s->R[j]?=some v->D w A BK s v)
 (h:DataW.trod enc P w base sp held fuel t cs=some x):
 ∃(l:List α) (v:Value),cs=[v]/\v.oneCell'=true/\D w A BK (.sl sz l.length (λi=>encS (l.getD i d0)) none) v/\∀q∈l,ok q:=by
 rcases DataW.trod_slice L h with⟨rfl,_⟩|⟨a,len,f,elems,rest,m,rfl,rfl,_,hb,B,S,S0,U,_,_⟩
 .exact⟨[],_,rfl,rfl,.sl none 0 0 0 (λ_ _=>undef) (Jm _) (Js _) (.inl rfl) (λh=>absurd h E6) (λi d=>absurd d E6) (λi j s d=>absurd d E6),λq r=>by cases r⟩
 .have g:∀i,i<len->∃(R:List Value) (q:α),(R.length=sz/\∀j,j<sz->w.cell? ((a.add (i*sz)).add j)=R[j]?)/\ok q/\(encS q).length=sz/\(encS q).all SV.pure=true/\(∀v∈R,v.oneCell'=true)/\∀(j:Nat) (s:SV) (v:Value),(encS q)[j]?=some s->R[j]?=some v->D w A BK s v:=by
   intro i d;have:=U i d;rw[M,Je E4]at this;rw[Jn]at this;obtain⟨R,V,W⟩:=this;obtain⟨_,X,Y⟩:=World.cells?_some V;obtain⟨q,r⟩:=O m R _ W;exact⟨R,q,⟨X,Y⟩,r⟩
  let G:Nat->List Value:=λi=>if d:i<len then(g i d).choose else []
  let Q:Nat->α:=λi=>if d:i<len then(g i d).choose_spec.choose else d0
  have k:∀i,i<len->((G i).length=sz/\∀j,j<sz->w.cell? ((a.add (i*sz)).add j)=(G i)[j]?)/\ok (Q i)/\(encS (Q i)).length=sz/\(encS (Q i)).all SV.pure=true/\(∀v∈G i,v.oneCell'=true)/\∀(j:Nat) (s:SV) (v:Value),(encS (Q i))[j]?=some s->(G i)[j]?=some v->D w A BK s v:=by intro i d;simp only[G,Q,d,dif_pos];exact(g i d).choose_spec.choose_spec
  have I:∀i,i<len->((List.range len).map Q).getD i d0=Q i:=λi d=>by simp[d]
  have Z:((List.range len).map Q).length=len:=E6;have u:0<len->∃b o,a=⟨b,o,none⟩:=by
   intro n;obtain⟨⟨g1,C⟩,_⟩:=k 0 n;have:=C 0 H;rw[Je E4]at this;have hs:=World.cell?_spot this;obtain⟨b,o,s⟩:=a;have:s=none:=by simpa[Addr.add]using hs
   exact⟨b,o,by rw[this]⟩
  have J:∀b o,a=⟨b,o,none⟩->∀i j,i<len->j<sz->w.cell? ⟨b,o+i*sz+j,none⟩=some ((G i).getD j undef):=by rintro b o rfl i j d z;obtain⟨⟨g1,C⟩,_⟩:=k i d;have:=C j z;rw[Je E4]at this;rw[c85,c85]at this;rw[Jd,Je E4,this];rfl
  have K:∀(b o:Nat),(0<len->a=⟨b,o,none⟩)->D w A BK (.sl sz ((List.range len).map Q).length (λi=>encS (((List.range len).map Q).getD i d0)) none) (.slice (some a) len f):=by
   intro b o E;rw[Z];refine .sl (some a) b o f (λi j=>(G i).getD j undef) B S (.inl rfl) (λn=> ?_) (λi d=> ?_) (λi j s d hs=> ?_)
   .have F:=E n;refine⟨by rw[F],N b,?_,λi j d z=>⟨J b o F i j d z,?_⟩⟩
    .have:=J b o F 0 0 n H;unfold World.cell? at this;split at this
     .rename_i c T fz hc;exact(Kp.1 hc).1
     .cases this
    .obtain⟨⟨g1,_⟩,_,_,_,g5,_⟩:=k i d;show ((G i).getD j undef).oneCell'=true;rw[Jd,Je E4];exact g5 _ (Kd _)
   .rw[I i d];exact⟨(k i d).2.2.1,(k i d).2.2.2.1⟩
   .rw[I i d]at hs;obtain⟨⟨g1,_⟩,_,g3,_,_,g6⟩:=k i d;have z:j<sz:=by rw[<-g3];exact(Jh.1 hs).1
    refine g6 j s _ hs ?_;simp only[Jd];rw[Je E4];rfl
  refine⟨(List.range len).map Q,.slice (some a) len f,rfl,rfl,?_,λq r=> ?_⟩
  .rcases Ku len with n|n
   .exact K 0 0 (λh=>absurd h E4)
   .obtain⟨b,o,e⟩:=u n;exact K b o (λ_=>e)
  .obtain⟨i,d,rfl⟩:=Jx.1 r;exact(k i (Ki.1 d)).2.1
mutual
def Vw:DataW H->List Value
 |.lit (.int k n)=>[.int k n]
 |.lit (.bool b)=>[.bool b]
 |.agg a=>f1v a
 |_=>[]
def f1v:List (DataW H)->List Value
 | []=>[]
 |d::r=>Vw d++f1v r
end
mutual
def VW:DataW H->Bool
 |.lit (.int _ _)=>true
 |.lit (.bool _)=>true
 |.agg a=>c7p a
 |_=>false
def c7p:List (DataW H)->Bool
 | []=>true
 |d::r=>VW d&&c7p r
end
theorem c0d:∀l:List (DataW H),f1v l=(l.map Vw).flatten
 | []=>rfl
 |d::r=>by simp[f1v,c0d r]
theorem b3e:∀{l:List (DataW H)},c7p l=true->∀d∈l,VW d=true
 | [],_,d,h=>Eg
 |x::r,h,d,a=>by
  simp only[c7p,K9]at h;rcases Jt.1 a with rfl|a
  .exact h.1
  .exact b3e h.2 d a
theorem b5r:∀(b:List Nat) (cs:List Value) (a:List (List Value)),a.length=b.length->cs.length=b.sum->(∀(i s:Nat) (y:List Value),b[i]?=some s->a[i]?=some y->(cs.drop (b.take i).sum).take s=y)->cs=a.flatten:=by
 intro b;induction b with
 |nil=>
  intro cs a c hc _;obtain rfl:a=[]:=M5.1 c;obtain rfl:cs=[]:=M5.1 Ey;rfl
 |cons s b f=>
  intro cs a c hc d;match a,c with
  |y::a,c=>
   have e:=d 0 s y rfl rfl;simp at e;have:=f (cs.drop s) a (by simpa using c) (by simp at hc⊢;omega) (λi g j hs k=>by have:=d (i+1) g j G2 (by simpa using k);simp only[List.take_succ_cons,List.sum_cons]at this;rw[List.drop_drop];exact this)
   rw[List.flatten_cons,<-this,<-e,List.take_append_drop]
theorem f1g{P:Program}{t:TypeId}(h:isVar P t=true):t<P.types.size:=by simp only[isVar,Ix]at h;exact h.1
theorem d0c(a:laidOutB P=true)(h:isVar P t=true):rowFine P t=true:=by simp only[laidOutB,K9]at a;exact Jp.1 a.1.1 t (Ki.2 (f1g h))
def Yr(P:Program):Nat->TypeId->Bool
 |0,_=>false
 |n+1,t=>match P.underlying t with
  |some (.int _)|some .bool=>true
  |some (.struct a)=>a.toList.all λf=>Yr P n f.type
  |some (.array _ e)=>Yr P n e
  |_=>false
theorem d11(J:laidOutB P=true):∀(fuel:Nat) (t:TypeId) (cs:List Value) (x:DataW H×List MemPlace) (n:Nat),Yr P n t=true->isVar P t=true->DataW.trod enc P w base sp held fuel t cs=some x->VW x.1=true->cs=Vw x.1:=by
 intro fuel;induction fuel with
 |zero=>intro t cs x n _ _ h;simp[DataW.trod]at h
 |succ m E=>
  intro t cs x n a F h o;match n,a with
  |G+1,a=>
  unfold Yr at a;have c:=d0c J F;unfold rowFine at c;simp only[F,Bool.not_true,Nj]at c;cases hu:P.underlying t with
  |none=>simp[DataW.trod,hu]at h
  |some T=>
   cases T with
   |int k=>
    obtain⟨n,rfl,rfl,_⟩:=DataW.trod_int hu h;rfl
   |bool=>
    obtain⟨b,rfl,rfl⟩:=DataW.trod_bool hu h;rfl
   |struct I=>
    rw[hu]at c;simp only[J8,Jp]at c;obtain⟨⟨q,r⟩,K⟩:=c;obtain⟨L,u,em,rfl,v,A,hx⟩:=DataW.trod_struct hu h;obtain rfl:m=u:=E4;simp only[VW]at o;have B:=b3e o;simp only[Vw,c0d,Lh];refine b5r (I.toList.map λf=>P.cellsOf f.type) cs _ (by simp[A]) (by rw[v,r]) (λi s y hs d=> ?_);rw[K1,Jk]at hs d;obtain⟨f,g,rfl⟩:=hs;obtain⟨z,j,rfl⟩:=d;have l:i<I.toList.length:=(Jh.1 g).1;have C:=K i (Ki.2 l);rw[g]at C;simp only[M6]at C;have:=hx i f (by simpa using g);rw[j]at this;rw[<-List.map_take]at*;rw[<-C];rw[hu]at a;exact E f.type _ z G (Jp.1 a f (Jj g)) (q f (Jj g)) this (B z.1 (List.mem_map_of_mem (Jj j)))
   |array n e=>
    rw[hu]at c;simp only[J8]at c;obtain⟨M,r⟩:=c;obtain⟨L,u,em,rfl,v,A,hx⟩:=DataW.trod_array hu h;obtain rfl:m=u:=E4;simp only[VW]at o;have B:=b3e o;simp only[Vw,c0d,Lh];refine b5r (List.replicate n (P.cellsOf e)) cs _ (by simp[A]) (by rw[v,r];simp) (λi s y hs d=> ?_);rw[K1,Jk]at d;obtain⟨z,j,rfl⟩:=d;have l:i<n:=by have:=(Jh.1 hs).1;simpa using this
    have hs':s=P.cellsOf e:=by simp[l]at hs;exact hs.symm
    subst hs';have:=hx i l;rw[j]at this;rw[List.take_replicate,List.sum_replicate_nat,Nat.min_eq_left (Nat.le_of_lt l)];rw[hu]at a;exact E e _ z G a M this (B z.1 (List.mem_map_of_mem (Jj j)))
   |_=>
    simp[hu]at a
end
def svIs:SV->Value->Bool
 |.int k n,.int d m=>k==d&&n==m
 |.bool b,.bool c=>b==c
 |.clo f [],.func (.func g) a b=>f==g&&a.isEmpty&&b.isEmpty
 |_,_=>false
theorem d65{w:World}{H:Nat->Prop}{μ:Mu}{s:SV}{v:Value}(h:svIs s v=true):D w H μ s v/\v.oneCell'=true/\s.pure=true:=by
 unfold svIs at h;split at h
 .simp only[J8]at h;obtain⟨rfl,rfl⟩:=h;exact⟨.int,rfl,rfl⟩
 .simp only[M6]at h;subst h;exact⟨.bool,rfl,rfl⟩
 .rename_i f g a b;simp only[J8,Array.isEmpty_iff]at h;obtain⟨⟨rfl,rfl⟩,rfl⟩:=h;exact⟨.clo [] rfl (λi s v h=>Ee),rfl,rfl⟩
 .cases h
def d17(sz n:Nat)(f:Nat->List SV)(cs:List Value):Bool:=
 cs.length==n*sz&&(List.range n).all λi=>(f i).length==sz&&((f i).zip ((cs.drop (i*sz)).take sz)).all λx=>svIs x.1 x.2
theorem c22{w:World}{A:Nat->Prop}{μ:Mu}{g sz n:Nat}{f:Nat->List SV}{cs:List Value}(o:0<n)(p:¬A g)(q:g<w.heap.size)(r:∀k,w.cell? ⟨g,k,none⟩=cs[k]?)(c:d17 sz n f cs=true):(SV.rel sz n f 0 0).pure=true/\D w A μ (.rel sz n f 0 0) (.pointer (some ⟨g,0,none⟩)):=by
 simp only[d17,J8,Jp]at c;obtain⟨fj,c⟩:=c;have m:∀i j,i<n->j<sz->i*sz+j<cs.length:=λi j a b=>by have:=Ks sz (show i+1<=n from a);rw[Mn,Nat.one_mul]at this;omega
 have h:∀i j,i<n->j<sz->∀s,(f i)[j]?=some s->svIs s (cs.getD (i*sz+j) undef)=true:=by intro i j a b s hs;obtain⟨h1,t⟩:=c i (Ki.2 a);refine t (s,cs.getD (i*sz+j) undef) (L7.2 ⟨j,?_⟩);rw[List.getElem?_zip_eq_some];refine⟨hs,?_⟩;rw[List.getElem?_take,Jf b,List.getElem?_drop,Jd,Je (m i j a b)];rfl
 have d:∀i,i<n->(f i).length=sz:=λi a=>(c i (Ki.2 a)).1;refine⟨rfl,?_⟩;have:=D.rel (w:=w) (H:=A) (μ:=μ) (sz:=sz) (n:=n) (i:=0) (off:=0) (f:=f) g 0 (λi j=>cs.getD (i*sz+j) undef) o p ⟨q,λi j a b=>⟨?_,?_⟩⟩ (λi a=>⟨d i a,?_⟩) (λi j s a hs=> ?_)
 .simpa using this
 .show w.cell? ⟨g,0+i*sz+j,none⟩=some (cs.getD (i*sz+j) undef);rw[Lg,r,Jd,Je (m i j a b)];rfl
 .have u:j<(f i).length:=by rw[d i a];exact b
  exact(d65 (w:=w) (H:=A) (μ:=μ) (h i j a b _ (Je u))).2.1
 .rw[Jp];intro s hs;obtain⟨j,b,e⟩:=K7.1 hs;have l:j<sz:=by rw[<-d i a];exact b
  exact(d65 (w:=w) (H:=A) (μ:=μ) (h i j a l s (by rw[Je b,e]))).2.2
 .have l:j<sz:=by rw[<-d i a];exact(Jh.1 hs).1
  exact(d65 (h i j a l s hs)).1
structure FamH where
 ι:Type
 args:ι->List SV
 own:ι->List Blk
 pre:ι->Prop
 res:ι->SV
 own':ι->List Blk
 chg:List Nat
def LawH(F:FamH)(h:HK):Prop:=∀b a r,h b a=some r->r.pre->∃i,BN b (F.args i)/\a.length=(F.own i).length/\SQ (F.own i).length a (F.own i)/\F.pre i/\r.res=F.res i/\r.own=F.own' i/\r.chg=F.chg
def Ug(E:Env)(st:St):ResultVar->Option SV
 |.tmp t=>CE E st.ρ none (.tmp t)
 |.cell t T=>(CE E st.ρ none (.tmp t)).bind λp=>match p with
  |.own k o=>(UA E.P st.own T (.own k o)).map (·.2)
  |_=>none
def f7p(E:Env)(a:Func)(st:St):Option SV:=match a.results.toList with
 | [r]=>Ug E st r
 |b=>(b.mapM (Ug E st)).map .tup
def PQ(E:Env)(a:Func)(F:FamH)(i:F.ι)(st:St):Prop:=match f7p E a st with
 |some r=>r.le2 (F.res i)/\(if(F.res i).in2 (F.own' i).length=true then True else False)/\SQ (F.own' i).length st.own (F.own' i)
 |none=>False
section
variable{E:Env}{B0:Nat}{X A:Nat->Prop}{w0:World}{nt:Nat}{st:St}{a:Act}{w:World}{μ:Mu}
theorem b7e(h:SD E B0 X A w0 nt st a w μ){r:ResultVar}{s:SV}(c:Ug E st r=some s):∃v,(RM a.tmps r).run E.P w=.ok v w/\D w (held A μ) μ s v:=by
 have d:=h.opds (g:=none) (λq b e=>Eb);cases r with
 |tmp t=>
  simp only[Ug]at c;exact⟨_,rfl,d _ _ c⟩
 |cell t T=>
  simp only[Ug,Jn]at c;obtain⟨p,l,c⟩:=c;split at c
  .rename_i k o;simp only[Jk]at c;obtain⟨⟨q,s0⟩,f,rfl⟩:=c;have m:q:=by
    simp only[UA,J3,Ir]at f;obtain⟨n,_,cs,_,s',_,rfl,_⟩:=f;exact Ji
   have i:=d _ _ l;obtain⟨u,j,x⟩:=b3h h.own (λ_ _ h=>h) i f m;refine⟨u,?_,x⟩;generalize y:a.eval (.tmp t)=v at i j;have z:a.tmps.getD t undef=v:=y;cases i with
   |own hk=>
    simp only[RM,z,asAddr,Is];simpa[Instr.loadAt,Instr.sureAddr]using j
  .cases c
theorem c4i(h:SD E B0 X A w0 nt st a w μ):∀(l:List ResultVar) (b:List SV),l.mapM (Ug E st)=some b->∃c,(l.mapM (RM a.tmps)).run E.P w=.ok c w/\DL w (held A μ) μ b c:=by
 intro l;induction l with
 |nil=>intro b h;simp at h;subst h;exact⟨[],E6,rfl,λi s v h=>Ee⟩
 |cons r l g=>
  intro b hs;simp only[M9,J3,Option.pure_def,K6]at hs;obtain⟨s1,j,d,k,rfl⟩:=hs;obtain⟨v,hv,m⟩:=b7e h j;obtain⟨c,wi,f⟩:=g d k;refine⟨v::c,I6,by simp[f.1],λi s n hs e=> ?_⟩;match i with
  |0=>simp at hs e;subst hs e;exact m
  |i+1=>exact f.2 i s n G2 (by simpa using e)
theorem d2z(h:SD E B0 X A w0 nt st a w μ){c:Func}{s:SV}(b:f7p E c st=some s):∃v,(results c a.tmps).run E.P w=.ok v w/\D w (held A μ) μ s v:=by
 rw[b3m,L9,Array.mapM_eq_mapM_toList,Sem.run_map];unfold f7p at b;split at b
 .rename_i r g;obtain⟨v,i,j⟩:=b7e h b;refine⟨v,?_,j⟩;rw[g,M9,L9,i];simp
 .rename_i rs k;simp only[Jk]at b;obtain⟨l,f,rfl⟩:=b;obtain⟨d,m,e⟩:=c4i h _ l f;refine⟨.tuple d.toArray,?_,.tup d e.1 e.2⟩;rw[m];obtain⟨n,_⟩:=OM f;have o:d.length≠1:=by
   rw[e.1,n];intro p;match hl:c.results.toList,p with
   | [r],_=>exact k r hl
  simp[o]
end
structure GhX where
 g0:List Ghost:=[]
 gx:St->List Ghost:=λ_=>[]
def inG(E:Env)(G:GhX)(K:St->Prop)(st:St):Prop:=match G.g0 with
 | []=>K st
 |g::a=>RA E K (g::a) st
def QL(E:Env)(G:GhX)(K:St->Prop)(st:St):Prop:=match G.gx st with
 | []=>K st
 |g::a=>RA E K (g::a) st
theorem f8r{P:Program}{glob:Nat->Option SV}{f:FuncId}{fn:Func}{code:Code}(F:FamH)(E:(i:F.ι)->Mu->Env)(Pe:∀i μ,(E i μ).P=P)(Q0:∀i μ,(E i μ).glob=glob)(R8:∀i μ,(E i μ).na=(F.own i).length/\(E i μ).ax=(λk=> !F.chg.contains k)/\(E i μ).av=μ)
 (hE:∀i μ,EnvOK (E i μ)) (hC:∀i μ,GM (E i μ)) (hm:P.follows .mixedOrders=true)
 (hf:P.funcs[f]?=some fn) (hb:fn.body=some code) (hn:(fn.name== "runtime.NumGoroutine")=false) (I:F.ι->Nat->Option Inv) (h:HK) (hh:LawH F h) (be:∀i,(F.args i).length<=fn.ntmps) (gq:∀i,(F.own i).length<=(F.own' i).length) (G:GhX) (f9:∀i μ,JH (E i μ).c2 (PZ (E i μ).gr) code=true)
 (H:∀i μ,F.pre i->inG (E i μ) G (EZ (E i μ) fn.ntmps (I i) code ⟨QL (E i μ) G (PQ (E i μ) fn F i),λ_ _=>False,QL (E i μ) G (PQ (E i μ) fn F i)⟩) ⟨MI 0 (F.args i),F.own i⟩):d4c P glob f h:=by
 refine⟨⟨fn,hf,hn,by rw[hb];rfl⟩,λA w args vals own μ r hA hg hO d9 hD hr hp=> ?_⟩;obtain⟨i,bi,jt,w4,db,e1,e2,e3⟩:=hh args own r hr hp;have hEP':=Pe i μ;subst hEP';obtain⟨l1,l2⟩:=b40 bi;have sw:vals.length<=fn.ntmps:=Hb;have pi:cut (F.own i).length μ=μ:=by
  funext k;unfold cut;split
  .rfl
  .rename_i hk;exact(d9 k E4).symm
 obtain⟨U9,Zd,Y0⟩:=R8 i μ;refine calls_of_wp hf hb ?_;have hS:SD (E i μ) w.heap.size (VC μ) A w fn.ntmps ⟨MI 0 (F.args i),F.own i⟩ {tmps:=vals.toArray++Array.replicate (fn.ntmps-vals.toArray.size) undef,defers:=[]} w μ:=by
  refine⟨⟨λk x hk=> ?_,hO.inj,λk x b hk hx=>⟨(hO.rng k x b hk hx).1,(hO.rng k x b hk hx).2.1,.inr ⟨k,x,hk,hx⟩⟩,hA⟩,Fr.refl _ _ _,Jm _,λg s rx=> ?_,rfl,Ed,λt e he=> ?_,λk hk=>d9 k (by rw[jt];exact hk),λk x hx=> ?_⟩
  .obtain⟨bl,e,b9⟩:=hO.blk k x hk;have b6:k<(F.own i).length:=by rw[<-jt];exact(Jh.1 e).1
   obtain⟨b,e2,bi⟩:=b2n w4 k _ (Je b6);rw[e]at e2;cases e2;refine⟨_,Je b6,?_⟩;have:=Blk.le_sound (H':=held A μ) (λ_ h=>h) b9 bi;rwa[pi]at this
  .rw[Q0]at rx;exact⟨(hg g s rx).1,(hg g s rx).2.keep ⟨Jm _,λ_ _ _=>rfl,λ_ _ h=>h,λ_ _ h=>Eg⟩⟩
  .obtain⟨h1,_,h3⟩:=b5d _ _ he;unfold CU;rw[h1];simp only;rw[ML he];have b6:t<(F.args i).length:=(Jh.1 h3).1;obtain⟨s0,bv,ra⟩:=l2 t e.sv Gs;have ti:t<vals.length:=Hd;have hd:=hD.2 t s0 vals[t] bv (Je ti);have du:(vals.toArray++Array.replicate (fn.ntmps-vals.toArray.size) undef).getD t undef=vals[t]:=by
    simp[Array.getElem?_append,ti]
   rw[du];exact RC hd ra
  .have pq:=Env.an_ak hx;unfold Env.an at hx;rw[Jf pq,Y0]at hx;exact hx
 have bh:∃st0 μ0,SD (E i μ) w.heap.size (VC μ) A w fn.ntmps st0 {tmps:=vals.toArray++Array.replicate (fn.ntmps-vals.toArray.size) undef,defers:=[]} w μ0/\EZ (E i μ) fn.ntmps (I i) code ⟨QL (E i μ) G (PQ (E i μ) fn F i),λ_ _=>False,QL (E i μ) G (PQ (E i μ) fn F i)⟩ st0:=by
  have h0:=H i μ db;unfold inG at h0;split at h0
  .exact⟨_,_,hS,h0⟩
  .exact XI _ hS h0
 obtain⟨st0,μ0,hS0,hH0⟩:=bh;refine b68 (hE i μ) (hC i μ) hm code (I i) ⟨QL (E i μ) G (PQ (E i μ) fn F i),λ_ _=>False,QL (E i μ) G (PQ (E i μ) fn F i)⟩ _ _ _ w μ0 (f9 i μ) hS0 ⟨λst1 a w' μ1 hs hr=> ?_,λi st a w' μ2 hs hr=>hr.elim,λst1 a w' μ1 hs hr=> ?_⟩ hH0;all_goals
  have hout:∃st μ2,SD (E i μ) w.heap.size (VC μ) A w fn.ntmps st a w' μ2/\PQ (E i μ) fn F i st:=by
   replace hr:QL (E i μ) G (PQ (E i μ) fn F i) st1:=hr;unfold QL at hr;split at hr
   .exact⟨_,_,hs,hr⟩
   .exact XI _ hs hr
  clear hr hs;obtain⟨st,μ2,hs,hr⟩:=hout;unfold PQ at hr;split at hr
  .rename_i rs fy;obtain⟨hr1,jz,hr3⟩:=hr;have bh:(F.res i).in2 (F.own' i).length=true:=by
    split at jz
    .assumption
    .exact jz.elim
   obtain⟨v,hv,hd⟩:=d2z hs fy;have hH:∀b,held A (cut (F.own' i).length μ2) b->held A μ2 b:=by
    intro b hb;rcases hb with hb|⟨k,x,hk,hx⟩
    .exact .inl hb
    .refine .inr ⟨k,x,?_,hx⟩;unfold cut at hk;split at hk
     .exact hk
     .cases hk
   have p9:∀{k x},cut (F.own' i).length μ2 k=some x->k<(F.own' i).length/\μ2 k=some x:=by
    intro k x hk;unfold cut at hk;split at hk
    .exact⟨‹_›,hk⟩
    .cases hk
   rw[e1,e2,e3];refine⟨hs.dfr,v,hv,v,cut (F.own' i).length μ2,rfl,⟨λk x hk=> ?_,λk k' x x' b hk dh=>hs.own.inj k k' x x' b (p9 hk).2 (p9 dh).2,λk x b hk hx=> ?_,hs.own.bnd⟩,λk hk=>by unfold cut;rw[if_neg E4],c2b hH (RC hd hr1) bh,λk x hk hc hx=> ?_,hs.fr⟩
   .obtain⟨b6,hk⟩:=p9 hk;obtain⟨bl,e1,hb⟩:=hs.own.blk k x hk;obtain⟨b,e2,bi⟩:=b2n hr3 k _ (Je b6);rw[e1]at e2;cases e2;exact⟨_,Je b6,Blk.le_sound hH hb bi⟩
   .exact hs.own.rng k x b (p9 hk).2 hx
   .have pq:(E i μ).ak k=true:=by
     unfold Env.ak;rw[U9,Zd];simp only[Ix];exact⟨E4,by rw[hc];rfl⟩
    have:=hs.anc k x (by unfold Env.an;rw[if_pos pq,Y0];exact hx);have se:k<(F.own' i).length:=by exact Kb E4 (gq i)
    unfold cut;rw[Jf se];exact this
  .exact hr.elim
def Ql(P:Program):Nat->TypeId->Nat->Bool
 |0,_,_=>false
 |d+1,T,n=>match P.underlying T with
  |some .bool|some (.int _)|some .string=>decide (n=1)&&decide (CP P T=some 1)
  |some (.struct a)=>a.toList.all λf=>match CP P f.type with
   |some k=>decide (f.offset+k<=n)&&Ql P d f.type k
   |none=>false
  |some (.array len e)=>match CP P e with
   |some k=>decide (n=len*k)&&Ql P d e k
   |none=>false
  |_=>false
theorem c8t{P:Program}{d n:Nat}{T:TypeId}(h:Ql P d T n=true):∃a,P.underlying T=some a/\(HJ a=false->n=1):=by
 cases d with
 |zero=>simp[Ql]at h
 |succ d=>
  unfold Ql at h;split at h
  .exact Cy
  .exact Cy
  .exact Cy
  .rename_i hu;exact⟨_,hu,λh=>Gc⟩
  .rename_i hu;exact⟨_,hu,λh=>Gc⟩
  .cases h
theorem run_ck{P:Program}(em:Bool):∀(d:Nat) (T:TypeId) (n:Nat) (us:List Value) (m:Nat) (w:World),Ql P d T n=true->us.length=n->(∀u∈us,∃k i,u=.int k i)->(Instr.checkKey em (d+m) T (HH P T us)).run P w=.ok () w:=by
 intro d;induction d with
 |zero=>intro T n us m w h;simp[Ql]at h
 |succ d ih=>
  intro T n us m w h hl hi;rw[show d+1+m=(d+m)+1 from E4];have flat:∀dd,P.underlying T=some dd->HJ dd=false->(match dd with|.bool|.int _|.string=>True|_=>False)->us.length=1->(Instr.checkKey em (d+m+1) T (HH P T us)).run P w=.ok () w:=by
   intro dd hu ha hd h1;match us,h1 with
   | [u],_=>
     obtain⟨k,i,rfl⟩:=hi u E6;have:HH P T [Value.int k i]=.int k i:=by simp[HH,IW,hu,ha]
     rw[this];cases dd<;>simp at hd<;>simp[Instr.checkKey,Kf hu]
  unfold Ql at h;split at h
  .exact Cz
  .exact Cz
  .exact Cz
  .rename_i fs hu;have hv:HH P T us=.agg us.toArray:=by simp[HH,IW,hu,HJ]
   rw[hv,Instr.checkKey];simp only[J9,Kf hu];rw[<-Array.forIn_toList];have bw:=Jp.1 h;clear h;generalize fs.toList=L at bw;induction L with
   |nil=>simp
   |cons f L ihL=>
    have hf:=bw f E6;split at hf;rotate_left
    .cases hf
    rename_i k hk;simp only[Ix]at hf;obtain⟨ho,hc⟩:=hf;simp only[CP,Jk]at hk;obtain⟨inf,bq,rfl⟩:=hk;obtain⟨dd,Ze,h1⟩:=c8t hc;have p1:=Tr (w:=w) Ze bq us f.offset E4 h1;have p2:=ih f.type inf.size ((us.drop f.offset).take inf.size) m w hc Ed (λu hu=>hi u (List.mem_of_mem_drop (Nk hu)));have rest:=ihL (λx hx=>bw x En);by_cases hn:f.name= "_"
    .simp only[List.forIn_cons,Is,hn,ne_eq,not_true_eq_false,if_false];exact rest
    .simp only[List.forIn_cons,Is,hn,ne_eq,not_false_eq_true,Kt,p1,p2];exact rest
  .rename_i len e hu;have hv:HH P T us=.agg us.toArray:=by simp[HH,IW,hu,HJ]
   split at h;rotate_left
   .cases h
   rename_i k hk;simp only[Ix]at h;obtain⟨hn,hc⟩:=h;simp only[CP,Jk]at hk;obtain⟨inf,bq,rfl⟩:=hk;obtain⟨dd,Ze,h1⟩:=c8t hc;rw[hv,Instr.checkKey];simp only[J9,Kf hu];simp only[Std.Legacy.Range.forIn_eq_forIn_range',Std.Legacy.Range.size,Nat.sub_zero,Nat.add_one_sub_one,Nat.div_one];have bw:∀i∈List.range' 0 len,i<len:=λi hi=>by simp[List.mem_range']at hi;omega
   generalize List.range' 0 len=is at bw;induction is with
   |nil=>simp
   |cons j is ihj=>
    have hj:=bw j E6;have mf:j*inf.size+inf.size<=len*inf.size:=by rw[<-Mw];exact Ks _ hj
    have p1:=Tr (w:=w) Ze bq us (j*inf.size) E4 h1;have p2:=ih e inf.size ((us.drop (j*inf.size)).take inf.size) m w hc Ed (λu hu=>hi u (List.mem_of_mem_drop (Nk hu)));simp only[List.forIn_cons,Is,HQ (w:=w) bq,p1,p2];exact ihj (λx hx=>bw x En)
  .cases h
def Ot:List IntKind->List Int->List SV
 |k::a,n::b=>.int k n::Ot a b
 |_,_=>[]
theorem b02:∀{ks:List IntKind} {q:List Int},q.length=ks.length->(HR ks q).length=ks.length
 | [],[],_=>rfl
 |_::ks,_::q,h=>by simp[HR,b02 (ks:=ks) (q:=q) Ea]
theorem b0m:∀{ks:List IntKind} {q:List Int},q.length=ks.length->(Ot ks q).length=ks.length
 | [],[],_=>rfl
 |_::ks,_::q,h=>by simp[Ot,b0m (ks:=ks) (q:=q) Ea]
theorem c00{w:World}{H:Nat->Prop}{μ:Mu}:∀{ks:List IntKind} {q:List Int} (i:Nat) (s:SV) (v:Value),(Ot ks q)[i]?=some s->(HR ks q)[i]?=some v->D w H μ s v
 |k::ks,n::q,i,s,v,hs,a=>by
  match i with
  |0=>simp[Ot]at hs;simp[HR]at a;subst hs a;exact .int
  |i+1=>exact c00 i s v (by simpa[Ot]using hs) (by simpa[HR]using a)
 | [],_,i,s,v,hs,_=>by simp[Ot]at hs
 |_::_,[],i,s,v,hs,_=>by simp[Ot]at hs
theorem b28:∀{ks:List IntKind} {q c:List Int},q.length=ks.length->c.length=ks.length->HR ks q=HR ks c->q=c
 | [],[],[],_,_,_=>rfl
 |_::ks,a::q,b::c,h,d,e=>by simp only[HR,List.cons.injEq,Value.int.injEq,Nx]at e;rw[e.1,b28 (ks:=ks) Ea (by simpa using d) e.2]
theorem b16:∀{ks:List IntKind} {q:List Int},∀u∈HR ks q,∃k i,u=.int k i
 |k::ks,n::q,u,a=>by
  simp only[HR,Jt]at a;rcases a with rfl|a
  .exact Ce
  .exact b16 (ks:=ks) u a
 | [],_,u,a=>by simp[HR]at a
 |_::_,[],u,a=>by simp[HR]at a
theorem b34(m:Nat):∀{l:List Value},(∀u∈l,∃k i,u=.int k i)->((l.zip l).all λ(x,y)=>Instr.sameBits m x y)=true
 | [],_=>rfl
 |u::l,h=>by obtain⟨k,i,rfl⟩:=h u E6;simp only[List.zip_cons_cons,List.all_cons,K9];refine⟨?_,b34 m (λu a=>h u (by simp[a]))⟩;cases m<;>simp[Instr.sameBits]
theorem b53 {E : Env} (I : EnvOK E) {key : TypeId} {ks : List IntKind} (l : (match E.P.underlying key with | some (.array _ _) | some (.struct _) => true | _ => false) = true)
    (J : ∀ i u : List Int, i.length = ks.length → u.length = ks.length → NC E 8 key (Ot ks i) (Ot ks u) = some (decide (i = u))) (v : Ql E.P 8 key ks.length = true) : KLaw E.P key (.ints ks) := by
  have z : ∀ A : List Value, HH E.P key A = .agg A.toArray := λA => by
    unfold HH IW
    cases hu : E.P.underlying key with
    | none => rw [hu] at l; cases l
    | some d => cases d <;> rw [hu] at l <;> first | (cases l; done) | simp [HJ]
  refine ⟨λw em q c => ?_, λw q f c s => ?_, λw q c => ?_, λq b c k e => ?_⟩
  · have := run_ck (P := E.P) em 8 key ks.length (HR ks q) 9992 w v (b02 c) b16
    rw [z] at this
    exact this
  · rw [run_findKey_eq w l]
    have n : ∀ (f : List MapEntry) (g : Nat), (∀ e ∈ f, ∃ b, LJ (.ints ks) b ∧ e.key = kv (.ints ks) b) →
        ∃ r, (Instr.findAsking key (kv (.ints ks) q) f g).run E.P w = .ok r w ∧ ((r = none ∧ ∀ e ∈ f, e.key ≠ kv (.ints ks) q) ∨ ∃ (j : Nat) (e : MapEntry), r = some (g + j, e.val) ∧ f[j]? = some e ∧ e.key = kv (.ints ks) q) := by
      intro f
      induction f with
      | nil => intro g _; exact ⟨none, by simp [Instr.findAsking], .inl ⟨rfl, λe K => by simp at K⟩⟩
      | cons e f L =>
        intro g s
        obtain ⟨b, k, o⟩ := s e E6
        have F : (Op.equal key (kv (.ints ks) q) e.key).run E.P w = .ok (decide (q = b)) w := by
          have := (b87 (w := w) (H := λ_ => False) (μ := BK) I 8 key (Ot ks q) (Ot ks b) _ (HR ks q) (HR ks b) 9992 (J q b c k) ((b02 c).trans (b0m c).symm) ((b02 k).trans (b0m k).symm) c00 c00).2
          rw [z, z] at this
          rw [o]
          exact this
        by_cases B : q = b
        · subst B
          refine ⟨some (g + 0, e.val), ?_, .inr ⟨0, e, rfl, rfl, o⟩⟩
          simp [Instr.findAsking, F]
        · obtain ⟨r, C, hx⟩ := L (g + 1) (λx hx => s x En)
          refine ⟨r, by simp [Instr.findAsking, F, B, C], ?_⟩
          rcases hx with ⟨rfl, M⟩ | ⟨j, t, rfl, hj, N⟩
          · refine .inl ⟨rfl, λx hx => ?_⟩
            rcases Jt.1 hx with rfl | hx
            · intro G
              rw [o] at G
              have : (HR ks b).toArray = (HR ks q).toArray := by simpa [kv] using G
              exact B (b28 c k (by simpa using this.symm))
            · exact M x hx
          · exact .inr ⟨j + 1, t, by rw [show g + 1 + j = g + (j + 1) from E4], Et, N⟩
    obtain ⟨r, C, hx⟩ := n f 0 s
    refine ⟨r, C, ?_⟩
    rcases hx with h | ⟨j, e, rfl, hj, o⟩
    · exact .inl h
    · exact .inr ⟨j, e, by rw [Lg], hj, o⟩
  · have : Instr.sameBits 10000 (kv (.ints ks) q) (kv (.ints ks) q) = true := by
      have O : ∀ (m : Nat) (a : Array Value), Instr.sameBits (m + 1) (.agg a) (.agg a) = ((a.size == a.size) && (a.toList.zip a.toList).all λ(x, y) => Instr.sameBits m x y) := λm a => rfl
      rw [kv, show (10000 : Nat) = 9999 + 1 from rfl, O, BEq.rfl, Bool.true_and]
      exact b34 9999 b16
    rw [Instr.keyThatStays, Jf this, Sem.run_pure]
  · have t : (Value.agg (HR ks q).toArray) = .agg (HR ks b).toArray := e
    rw [Value.agg.injEq] at t
    exact b28 c k (by simpa using t)
def stL:List TypeId:=[
 26,
 100,
 39,
 258,
 51,
 71,
 31,
 119,
 89,
 82,
  26]
def stT:TypeId->Bool:=λt=>stL.contains t
def tb(l:List Int)(i:Nat):Int:=l.getD i 0
def WN(i:Nat):List SV:=[.int .i64 (tb [0,1,0,-1] i),.int .i64 (tb [-1,0,1,0] i),.int .u8 (tb [2,1,2,1] i),.int .i64 (tb [0,1,1,0] i),
 .int .i64 (tb [0,1,0,-1] i),.int .i64 (tb [-1,0,1,0] i),.int .u8 (tb [2,3,0,1] i),.int .i64 (tb [0,0,0,0] i),.int .i64 (tb [0,0,0,0] i),.int .u8 (tb [1,0,3,2] i),.int .i64 (tb [0,0,0,0] i),.int .i64 (tb [0,0,0,0] i),.int .u8 (tb [3,2,1,0] i),
 .int .i64 (tb [0,2,2,0] i),.int .i64 (tb [0,2,2,0] i),.int .i64 (tb [2,2,0,0] i),.int .i64 (tb [0,0,2,2] i)]
def QS(i:Nat):List SV:=[.int .i64 (tb [1,0,-1,0,-1,0,1,0] i),.int .i64 (tb [0,-1,0,1,0,-1,0,1] i),.int .i64 (tb [0,1,0,-1,0,-1,0,1] i),.int .i64 (tb [1,0,-1,0,1,0,-1,0] i)]
def QM:Nat->Option SV
 |0=>some (.rel 4 8 QS 0 0)
 |1=>some (.rel 17 4 WN 0 0)
 |_=>none
def ktT:TypeId->Option KT
 |97=>some (.ints [.i64,.u8])
 |249=>some (.ints [.i64,.u8])
 |178=>some (.ints [.i64,.i64,.u8])
 |185=>some (.ints [.i64,.i64,.u8,.i64,.i64,.u8])
 |_=>none
abbrev AK:=List SV->Option (Prop×SV)
def VP(l:List (FuncId×AK)):FuncId->Option AK:=λf=>match l with
 | []=>none
 |(g,k)::r=>if g==f then some k else VP r f
def tabX(l:List (FuncId×KZ)):FuncId->Option KZ:=λf=>match l with
 | []=>none
 |(g,k)::r=>if g==f then some k else tabX r f
def tabH(l:List (FuncId×HK)):FuncId->Option HK:=λf=>match l with
 | []=>none
 |(g,k)::r=>if g==f then some k else tabH r f
def f0t(l:List (FuncId×AK))(f:FuncId):Bool:=match l with
 | []=>false
 |(g,_)::r=>if g==f then true else f0t r f
noncomputable def EX(l:List (FuncId×AK))(x:List (FuncId×KZ))(h:List (FuncId×HK))(fz:Nat->Bool)(c2:Bool)(gr:Nat->List Ghost)(na:Nat)(ax:Nat->Bool)(av:Mu)(fs:List (FuncId×AK)):Env:={P:=Tryz.prog,C:=VP (fs++l),glob:=QM,ng:=0,st:=stT,X:=tabX x,fz:=fz,na:=na,ax:=ax,av:=av,kt:=ktT,Hc:=tabH h,c2:=c2,gr:=gr,fs:=λf=>f0t fs f}
noncomputable abbrev E0(l:List (FuncId×AK)):Env:=EX l [] [] (λ_=>false) false (λ_=>[]) 0 (λ_=>true) (λ_=>none) []
abbrev PS(f:FuncId)(k:AK):Prop:=c82 Tryz.prog QM f k
abbrev PF(f:FuncId)(k:AK):Prop:=PS f k/\c7r Tryz.prog QM f k
abbrev ES(f:FuncId)(e:KZ):Prop:=f54 Tryz.prog QM f e
abbrev HS(f:FuncId)(h:HK):Prop:=d4c Tryz.prog QM f h
theorem b5t{l:List (FuncId×AK)}{x:List (FuncId×KZ)}{h:List (FuncId×HK)}{fz:Nat->Bool}{c2:Bool}{gr:Nat->List Ghost}{na:Nat}{ax:Nat->Bool}{av:Mu}{fs:List (FuncId×AK)}(d:∀x∈l,PS x.1 x.2)(hx:∀y∈x,ES y.1 y.2)(g:∀y∈h,HS y.1 y.2)(i:∀x∈fs,PF x.1 x.2):GM (EX l x h fz c2 gr na ax av fs):=by
 refine⟨?_,?_,?_⟩
 .intro f k hk;have a:∀(l:List (FuncId×AK)),(∀x∈l,PS x.1 x.2)->VP l f=some k->PS f k:=by
   intro l;induction l with
   |nil=>intro _ h;cases h
   |cons x l ih=>
    intro h hk;simp only[VP]at hk;split at hk
    .rename_i e;cases hk;have:=h x E6;rw[M6.1 e]at this;exact this
    .exact D3
  have b:∀(fs:List (FuncId×AK)),(∀x∈fs,PF x.1 x.2)->VP (fs++l) f=some k->PS f k/\(f0t fs f=true->c7r Tryz.prog QM f k):=by
   intro fs;induction fs with
   |nil=>intro _ h;exact⟨a l d h,λh=>Eg⟩
   |cons x fs ih=>
    intro h hk;simp only[Mm,VP]at hk;split at hk
    .rename_i e;cases hk;have:=h x E6;rw[M6.1 e]at this;exact⟨this.1,λ_=>this.2⟩
    .rename_i e;obtain⟨j,m⟩:=ih (λy hy=>h y Fk) hk;refine⟨j,λc=>m ?_⟩;simp only[f0t]at c;rwa[Jg e]at c
  exact b fs i hk
 .intro f k hk;have a:∀(l:List (FuncId×KZ)),(∀x∈l,ES x.1 x.2)->tabX l f=some k->ES f k:=by
   intro l;induction l with
   |nil=>intro _ h;cases h
   |cons x l ih=>
    intro h hk;simp only[tabX]at hk;split at hk
    .rename_i e;cases hk;have:=h x E6;rw[M6.1 e]at this;exact this
    .exact D3
  exact a x hx hk
 .intro f k hk;have a:∀(l:List (FuncId×HK)),(∀x∈l,HS x.1 x.2)->tabH l f=some k->HS f k:=by
   intro l;induction l with
   |nil=>intro _ h;cases h
   |cons x l ih=>
    intro h hk;simp only[tabH]at hk;split at hk
    .rename_i e;cases hk;have:=h x E6;rw[M6.1 e]at this;exact this
    .exact D3
  exact a h g hk
def stOK(P:Program)(T:TypeId):Bool:= !P.stoodInHeld T&& !P.eqGuardType P.depth T&&match P.underlying T with
 |some (.struct fs)=>fs.toList.all λf=>f.name != "_"
 |_=>false
theorem d5k{P:Program}{T:TypeId}(h:stOK P T=true):P.stoodInHeld T=false/\P.eqGuardType P.depth T=false/\∃fs,P.underlying T=some (.struct fs)/\∀f∈fs.toList,f.name≠ "_" :=by
 unfold stOK at h;simp only[Jb]at h;obtain⟨⟨h1,h2⟩,h3⟩:=h;refine⟨h1,h2,?_⟩;split at h3
 .rename_i fs m8;refine⟨fs,m8,λf hf=> ?_⟩;have:=Jp.1 h3 f hf;simpa using this
 .cases h3
theorem f91:(stL.all λT=>stOK Tryz.prog T)=true:=E5
theorem d50:∀T,stT T=true->Tryz.prog.stoodInHeld T=false/\Tryz.prog.eqGuardType Tryz.prog.depth T=false/\∃fs,Tryz.prog.underlying T=some (.struct fs)/\∀f∈fs.toList,f.name≠ "_" :=by intro T hT;exact d5k (Jp.1 f91 T (List.contains_iff_mem.1 hT))
noncomputable def EB:Env:={P:=Tryz.prog,C:=λ_=>none,glob:=λ_=>none,ng:=0,st:=stT}
theorem f5j:EnvOK EB:=⟨d50,λT K h=>Eg⟩
theorem dec2(a b a' c:Int):(decide (a=a')&&(decide (b=c)&&true))=decide ([a,b]=[a',c]):=by rw[Ly];simp
theorem dec3(a b c a' d e:Int):(decide (a=a')&&(decide (b=d)&&(decide (c=e)&&true)))=decide ([a,b,c]=[a',d,e]):=by rw[Ly];simp
theorem dec6(a b c d e f a' g h i j k:Int):((decide (a=a')&&(decide (b=g)&&(decide (c=h)&&true)))&&((decide (d=i)&&(decide (e=j)&&(decide (f=k)&&true)))&&true))=decide ([a,b,c,d,e,f]=[a',g,h,i,j,k]):=by rw[Ly];simp[and_assoc]
theorem f8m(a b a' c:Int):NC EB 8 100 [.int .i64 a,.int .u8 b] [.int .i64 a',.int .u8 c]=some (decide (a=a')&&(decide (b=c)&&true)):=E5
theorem c6s:KLaw Tryz.prog 100 (.ints [.i64,.u8]):=b53 f5j E5 (λc d e f=>by
 match c,d,e,f with
 | [a,b],[g,i],_,_=>rw[<-dec2];exact f8m a b g i) E5
theorem g0v(a b c a' d e:Int):NC EB 8 39 [.int .i64 a,.int .i64 b,.int .u8 c] [.int .i64 a',.int .i64 d,.int .u8 e]=some (decide (a=a')&&(decide (b=d)&&(decide (c=e)&&true))):=E5
theorem f1u:KLaw Tryz.prog 39 (.ints [.i64,.i64,.u8]):=b53 f5j E5 (λd e f g=>by
 match d,e,f,g with
 | [a,b,c],[i,j,k],_,_=>rw[<-dec3];exact g0v a b c i j k) E5
theorem f0z(a b c d e f a' g i j k l:Int):NC EB 8 193 [.int .i64 a,.int .i64 b,.int .u8 c,.int .i64 d,.int .i64 e,.int .u8 f] [.int .i64 a',.int .i64 g,.int .u8 i,.int .i64 j,.int .i64 k,.int .u8 l]=some ((decide (a=a')&&(decide (b=g)&&(decide (c=i)&&true)))&&((decide (d=j)&&(decide (e=k)&&(decide (f=l)&&true)))&&true)):=E5
theorem d3r:KLaw Tryz.prog 193 (.ints [.i64,.i64,.u8,.i64,.i64,.u8]):=b53 f5j E5 (λg i j k=>by
 match g,i,j,k with
 | [a,b,c,d,e,f],[l,m,n,o,q,r],_,_=>rw[<-dec6];exact f0z a b c d e f l m n o q r) E5
theorem f64:∀T K,ktT T=some K->∃a b,Tryz.prog.underlying T=some (.map a b)/\KLaw Tryz.prog a K:=by
 intro T K h;unfold ktT at h;split at h<;>cases h
 .exact⟨_,_,(by kernel_rfl:Tryz.prog.underlying 97=some (.map 100 49)),c6s⟩
 .exact⟨_,_,(by kernel_rfl:Tryz.prog.underlying 249=some (.map 100 4)),c6s⟩
 .exact⟨_,_,(by kernel_rfl:Tryz.prog.underlying 178=some (.map 39 3)),f1u⟩
 .exact⟨_,_,(by kernel_rfl:Tryz.prog.underlying 185=some (.map 193 197)),d3r⟩
theorem f79(l:List (FuncId×AK))(x:List (FuncId×KZ))(h:List (FuncId×HK))(fz:Nat->Bool)(c2:Bool)(gr:Nat->List Ghost)(na:Nat)(ax:Nat->Bool)(av:Mu)(fs:List (FuncId×AK)):EnvOK (EX l x h fz c2 gr na ax av fs):=⟨d50,f64⟩
theorem f74:Tryz.prog.follows .mixedOrders=true:=E5
structure Cs where
 l:List (FuncId×AK):=[]
 x:List (FuncId×KZ):=[]
 h:List (FuncId×HK):=[]
 fz:Nat->Bool:=λ_=>false
 c2:Bool:=false
 gr:Nat->List Ghost:=λ_=>[]
 G:GhX:={}
 fs:List (FuncId×AK):=[]
 fsok:∀x∈fs,PF x.1 x.2:=by simp
def Cs.OK(c:Cs):Prop:=(∀x∈c.l,PS x.1 x.2)/\(∀y∈c.x,ES y.1 y.2)/\∀y∈c.h,HS y.1 y.2
theorem NU{f:FuncId}{fn:Func}(c:Cs)(hc:c.OK)(F:Fam)(I:F.ι->Nat->Option Inv)(k:AK)(hk:RO F k)(be:∀i,(F.args i).length<=fn.ntmps)
 (hf:Tryz.prog.funcs[f]?=some fn) (hb:fn.body.isSome=true) (hn:(fn.name== "runtime.NumGoroutine")=false) (f9:JH c.c2 (PZ c.gr) (fn.body.getD .skip)=true)
 (H:∀i,F.pre i->EZ (EX c.l c.x c.h c.fz c.c2 c.gr 0 (λ_=>true) (λ_=>none) c.fs) fn.ntmps (I i) (fn.body.getD .skip) ⟨NA (EX c.l c.x c.h c.fz c.c2 c.gr 0 (λ_=>true) (λ_=>none) c.fs) fn (F.res i),λ_ _=>False,NA (EX c.l c.x c.h c.fz c.c2 c.gr 0 (λ_=>true) (λ_=>none) c.fs) fn (F.res i)⟩ ⟨MI 0 (F.args i),[]⟩):PS f k:=by
 cases rc:fn.body with
 |none=>rw[rc]at hb;cases hb
 |some code=>
  rw[rc]at f9 H;exact verify (EX c.l c.x c.h c.fz c.c2 c.gr 0 (λ_=>true) (λ_=>none) c.fs) rfl rfl rfl (f79 ..) (b5t hc.1 hc.2.1 hc.2.2 c.fsok) f74 hf rc hn F I k hk be f9 H
theorem conF{f:FuncId}{fn:Func}(c:Cs)(hc:c.OK)(F:Fam)(I:F.ι->Nat->Option Inv)(k:AK)(hk:RO F k)(be:∀i,(F.args i).length<=fn.ntmps)
 (hf:Tryz.prog.funcs[f]?=some fn) (hb:fn.body.isSome=true) (hn:(fn.name== "runtime.NumGoroutine")=false) (f9:JH c.c2 (PZ c.gr) (fn.body.getD .skip)=true)
 (H:∀i,F.pre i->EZ (EX c.l c.x c.h c.fz c.c2 c.gr 0 (λ_=>true) (λ_=>none) c.fs) fn.ntmps (I i) (fn.body.getD .skip) ⟨Sf (EX c.l c.x c.h c.fz c.c2 c.gr 0 (λ_=>true) (λ_=>none) c.fs) fn (F.res i),λ_ _=>False,Sf (EX c.l c.x c.h c.fz c.c2 c.gr 0 (λ_=>true) (λ_=>none) c.fs) fn (F.res i)⟩ ⟨MI 0 (F.args i),[]⟩):PF f k:=by
 cases rc:fn.body with
 |none=>rw[rc]at hb;cases hb
 |some code=>
  rw[rc]at f9 H;exact f6x (EX c.l c.x c.h c.fz c.c2 c.gr 0 (λ_=>true) (λ_=>none) c.fs) rfl rfl rfl (f79 ..) (b5t hc.1 hc.2.1 hc.2.2 c.fsok) f74 hf rc hn F I k hk be f9 H
theorem con{f:FuncId}{fn:Func}(l:List (FuncId×AK))(hl:∀x∈l,PS x.1 x.2)(F:Fam)(I:F.ι->Nat->Option Inv)(k:AK)(hk:RO F k)(be:∀i,(F.args i).length<=fn.ntmps)
 (hf:Tryz.prog.funcs[f]?=some fn) (hb:fn.body.isSome=true) (hn:(fn.name== "runtime.NumGoroutine")=false) (f9:JH false (PZ λ_=>[]) (fn.body.getD .skip)=true)
 (H:∀i,F.pre i->EZ (E0 l) fn.ntmps (I i) (fn.body.getD .skip) ⟨NA (E0 l) fn (F.res i),λ_ _=>False,NA (E0 l) fn (F.res i)⟩ ⟨MI 0 (F.args i),[]⟩):PS f k:=
 NU {l:=l} ⟨hl,E6,E6⟩ F I k hk be hf hb hn f9 H
theorem HX{f:FuncId}{fn:Func}(c:Cs)(hc:c.OK)(F:FamH)(I:F.ι->Nat->Option Inv)(h:HK)(hh:LawH F h)(be:∀i,(F.args i).length<=fn.ntmps)(gq:∀i,(F.own i).length<=(F.own' i).length)
 (hf:Tryz.prog.funcs[f]?=some fn) (hb:fn.body.isSome=true) (hn:(fn.name== "runtime.NumGoroutine")=false) (f9:JH c.c2 (PZ c.gr) (fn.body.getD .skip)=true)
 (H:∀i μ,F.pre i->inG (EX c.l c.x c.h c.fz c.c2 c.gr (F.own i).length (λk=> !F.chg.contains k) μ c.fs) c.G (EZ (EX c.l c.x c.h c.fz c.c2 c.gr (F.own i).length (λk=> !F.chg.contains k) μ c.fs) fn.ntmps (I i) (fn.body.getD .skip) ⟨QL (EX c.l c.x c.h c.fz c.c2 c.gr (F.own i).length (λk=> !F.chg.contains k) μ c.fs) c.G (PQ (EX c.l c.x c.h c.fz c.c2 c.gr (F.own i).length (λk=> !F.chg.contains k) μ c.fs) fn F i),λ_ _=>False,QL (EX c.l c.x c.h c.fz c.c2 c.gr (F.own i).length (λk=> !F.chg.contains k) μ c.fs) c.G (PQ (EX c.l c.x c.h c.fz c.c2 c.gr (F.own i).length (λk=> !F.chg.contains k) μ c.fs) fn F i)⟩) ⟨MI 0 (F.args i),F.own i⟩):HS f h:=by
 cases rc:fn.body with
 |none=>rw[rc]at hb;cases hb
 |some code=>
  rw[rc]at f9 H;exact f8r F (λi μ=>EX c.l c.x c.h c.fz c.c2 c.gr (F.own i).length (λk=> !F.chg.contains k) μ c.fs) (λ_ _=>rfl) (λ_ _=>rfl) (λ_ _=>⟨rfl,rfl,rfl⟩) (λ_ _=>f79 ..) (λ_ _=>b5t hc.1 hc.2.1 hc.2.2 c.fsok) f74 hf rc hn I h hh be gq c.G (λ_ _=>f9) H
theorem RO.of_eq{F:Fam}{k:AK}(h:∀a b s,k a=some (b,s)->b->∃i,BN a (F.args i)/\F.pre i/\s=F.res i):RO F k:=h
def AK.or(a b:AK):AK:=λc=>match a c with
 |some r=>some r
 |none=>b c
theorem PS.or{f:FuncId}{a b:AK}(h:PS f a)(m:PS f b):PS f (a.or b):=by
 refine⟨h.1,λA w c d e s i j k g l=> ?_⟩;unfold AK.or at g;split at g
 .rename_i r n;cases g;exact h.2 A w c d e s i j k n l
 .exact m.2 A w c d e s i j k g l
def Lf(p:Prop):Prop:=Classical.choose (p:=λq:Prop=>q=p) ⟨p,rfl⟩
theorem Le(p:Prop):Lf p=p:=Classical.choose_spec (p:=λq:Prop=>q=p) ⟨p,rfl⟩
theorem Lm{p:Prop}(h:p):Lf p:=Eq.mpr (Le p) h
structure Wk (q p:Prop):Prop where
 out:q->p
theorem Wan{a b A B:Prop}(f:Wk a A)(g:Wk b B):Wk (a/\b) (A/\B):=⟨λh=>⟨f.1 h.1,g.1 h.2⟩⟩
theorem Was{a x B:Prop}(hx:x)(f:Wk a B):Wk a (KP x/\B):=⟨λh=>⟨KP.mk hx,f.1 h⟩⟩
theorem Wbr{c:Bool}{A B a b:Prop}(f:c=true->Wk a A)(g:c=false->Wk b B):Wk ((c=true->a)/\(c=false->b)) (Br c A B):=⟨λk=>Br.mk (λh=>(f h).1 (k.1 h)) (λh=>(g h).1 (k.2 h))⟩
theorem Wbt{c:Bool}{A B a:Prop}(h:c=true)(f:Wk a A):Wk a (Br c A B):=⟨λk=>Br.litT h (f.1 k)⟩
theorem Wbf{c:Bool}{A B a:Prop}(h:c=false)(f:Wk a B):Wk a (Br c A B):=⟨λk=>Br.litF h (f.1 k)⟩
theorem Wtr:Wk True True:=⟨λh=>h⟩
theorem Wro{n:Nat}{f b:Nat->List SV}{a:Prop}(k:Wk a (∀i,i<n->f i=b i)):Wk a (∀i,i<n->GU (f i) (b i)):=⟨λh=>RX (k.1 h)⟩
structure Hu (p:Prop):Prop where
 out:p
theorem Iu{p a:Prop}(f:p->a):Hu p->a:=λh=>f h.1
theorem Wub{p q a:Prop}(f:p->Wk a q):Wk (Hu p->a) (Ub p q):=⟨λk=>Ub.mk λh=>(f h).1 (k ⟨h⟩)⟩
theorem Wal{p a:SlH->Prop}(f:∀v,Wk (a v) (p v)):Wk (∀v,a v) (QU p):=⟨λk=>QU.mk λv=>(f v).1 (k v)⟩
theorem Wla{x y:Option Entry}(h:x=y):Wk True (Qa x y):=⟨λ_=>Qa.mk h⟩
def Wnp(h:SlH->Prop):SlH->Prop:=h
theorem Wlf{p:Prop}:Wk (Lf p) p:=⟨Eq.mp (Le p)⟩
theorem Wsa{q p:Prop}(h:Wk q (KP p)):Wk q (KP p):=h
theorem Wse{q:Prop}{α:Type}{a b:α}(h:Wk q (a=b)):Wk q (a=b):=h
theorem Wsf{q:Prop}(h:Wk q False):Wk q False:=h
theorem Wsl{q:Prop}{a b:Option Entry}(h:Wk q (Qa a b)):Wk q (Qa a b):=h
theorem Wsk{q:Prop}{k:IntKind}{n:Int}(h:Wk q (AD k n)):Wk q (AD k n):=h
universe u
theorem Wsx{q:Prop}{α:Sort u}{p:α->Prop}(h:Wk q (∃x,p x)):Wk q (∃x,p x):=h
theorem Wsp{q:Prop}{α:Sort u}{p:α->Prop}(h:Wk q (∀x,p x)):Wk q (∀x,p x):=h
theorem WlA{a x:Prop}(f:Wk a x):Wk a (KP x):=⟨λh=>KP.mk (f.1 h)⟩
theorem Us{p:Prop}(h:p):Wk True p:=⟨λ_=>h⟩
theorem AB{p:Prop}(q:Prop)(a:q)(h:Wk q p:=by
 repeat'(first
  |(with_reducible refine' Was ?hx ?_
    case hx=>first|exact trivial|exact λ_=>trivial)
  |with_reducible refine' Wan ?_ ?_
  |(with_reducible refine' Wbt ?hx ?_
    case hx=>exact(Eq.refl true))
  |(with_reducible refine' Wbf ?hx ?_
    case hx=>exact(Eq.refl false))
  |with_reducible refine' Wbr (λh=> ?_) (λh=> ?_)
  |with_reducible exact Wtr
  |with_reducible refine' Wro ?_
  |with_reducible refine' Wub (λhu=> ?_)
  |with_reducible refine' Wal (λv=> ?_)
  |(with_reducible refine' Wla ?hx
    case hx=>exact rfl)
  |(fail_if_success (with_reducible first|refine' Wsa ?_|refine' Wse ?_|refine' Wsf ?_|refine' Wsx ?_|refine' Wsp ?_|refine' Wsk ?_|refine' Wsl ?_|refine' Wnp ?_)
    conv=>arg 2;whnf))
 all_goals(try with_reducible refine' WlA ?_)
 all_goals(try first|exact Us trivial|exact Us (λ_=>trivial))
 all_goals(try((conv=>arg 2;dsimp only);try with_reducible first|exact Wtr|exact Us rfl))
 all_goals(try exact Wlf)):p:=h.1 a
theorem AG{p:Prop}(q:Prop)(a:q)(h:Wk q p:=by
 repeat'(first
  |(with_reducible refine' Was ?hx ?_
    case hx=>first|exact trivial|exact λ_=>trivial)
  |with_reducible refine' Wan ?_ ?_
  |(with_reducible refine' Wbt ?hx ?_
    case hx=>exact(Eq.refl true))
  |(with_reducible refine' Wbf ?hx ?_
    case hx=>exact(Eq.refl false))
  |with_reducible refine' Wbr (λh=> ?_) (λh=> ?_)
  |with_reducible exact Wtr
  |with_reducible refine' Wub (λhu=> ?_)
  |with_reducible refine' Wal (λv=> ?_)
  |(with_reducible refine' Wla ?hx
    case hx=>exact rfl)
  |(fail_if_success (with_reducible first|refine' Wsa ?_|refine' Wse ?_|refine' Wsf ?_|refine' Wsx ?_|refine' Wsp ?_|refine' Wsk ?_|refine' Wsl ?_|refine' Wnp ?_)
    conv=>arg 2;whnf))
 all_goals(try with_reducible refine' WlA ?_)
 all_goals(try first|exact Us trivial|exact Us (λ_=>trivial))
 all_goals(try((conv=>arg 2;dsimp only);try with_reducible first|exact Wtr|exact Us rfl))
 all_goals(try exact Wlf)):p:=h.1 a
theorem X0c{p q a:Prop}(f:p->Wk a q):Wk (p->a) (Ub p q):=⟨λk=>Ub.mk λh=>(f h).1 (k h)⟩
theorem X0a{p:Prop}(q:Prop)(a:q)(h:Wk q p:=by
 repeat'(first
  |(with_reducible refine' Was ?hx ?_
    case hx=>first|exact trivial|exact λ_=>trivial)
  |with_reducible refine' Wan ?_ ?_
  |(with_reducible refine' Wbt ?hx ?_
    case hx=>exact(Eq.refl true))
  |(with_reducible refine' Wbf ?hx ?_
    case hx=>exact(Eq.refl false))
  |with_reducible refine' Wbr (λh=> ?_) (λh=> ?_)
  |with_reducible exact Wtr
  |with_reducible refine' Wro ?_
  |with_reducible refine' X0c (λh=> ?_)
  |with_reducible refine' Wal (λv=> ?_)
  |(with_reducible refine' Wla ?hx
    case hx=>exact rfl)
  |(fail_if_success (with_reducible first|refine' Wsa ?_|refine' Wse ?_|refine' Wsf ?_|refine' Wsx ?_|refine' Wsp ?_|refine' Wsk ?_|refine' Wsl ?_|refine' Wnp ?_)
    conv=>arg 2;whnf))
 all_goals(try with_reducible refine' WlA ?_)
 all_goals(try first|exact Us trivial|exact Us (λ_=>trivial))
 all_goals(try((conv=>arg 2;dsimp only);try with_reducible first|exact Wtr|exact Us rfl))
 all_goals(try exact Wlf)):p:=h.1 a
theorem X0b{p:Prop}(q:Prop)(a:q)(h:Wk q p:=by
 repeat'(first
  |(with_reducible refine' Was ?hx ?_
    case hx=>first|exact trivial|exact λ_=>trivial)
  |with_reducible refine' Wan ?_ ?_
  |(with_reducible refine' Wbt ?hx ?_
    case hx=>exact(Eq.refl true))
  |(with_reducible refine' Wbf ?hx ?_
    case hx=>exact(Eq.refl false))
  |with_reducible refine' Wbr (λh=> ?_) (λh=> ?_)
  |with_reducible exact Wtr
  |with_reducible refine' X0c (λh=> ?_)
  |with_reducible refine' Wal (λv=> ?_)
  |(with_reducible refine' Wla ?hx
    case hx=>exact rfl)
  |(fail_if_success (with_reducible first|refine' Wsa ?_|refine' Wse ?_|refine' Wsf ?_|refine' Wsx ?_|refine' Wsp ?_|refine' Wsk ?_|refine' Wsl ?_|refine' Wnp ?_)
    conv=>arg 2;whnf))
 all_goals(try with_reducible refine' WlA ?_)
 all_goals(try first|exact Us trivial|exact Us (λ_=>trivial))
 all_goals(try((conv=>arg 2;dsimp only);try with_reducible first|exact Wtr|exact Us rfl))
 all_goals(try exact Wlf)):p:=h.1 a
theorem X0d{p:Prop}(h:p:=by
 refine' X0a _ ?_;(repeat' first|constructor|intro h)<;>refine' Lm ?_
 all_goals first|exact Aa|skip):p:=h
theorem X0e{p:Prop}(h:p:=by
 refine' X0a _ ?_;(repeat' first|constructor|intro h)<;>refine' Lm ?_
 all_goals first|exact B5|skip):p:=h
theorem X0f{p:Prop}(h:p:=by
 refine' X0a _ ?_;(repeat' first|constructor|intro h)<;>refine' Lm ?_
 all_goals(first|rfl|exact A9)):p:=h
theorem X0g{p:Prop}(h:p:=by
 refine' X0a _ ?_;(repeat' first|constructor|intro h)<;>refine' Lm ?_
 all_goals first|exact B5):p:=h
theorem X0h{p:Prop}(h:p:=by
 refine' X0a _ ?_;(repeat' first|constructor|intro h)<;>refine' Lm ?_
 all_goals(try simp only[HL,CR]at*)
 all_goals(first
  |exact Bf
  |skip)):p:=h
theorem X1a{p:Prop}(h:p:=by
 refine' X0a _ ?_;(repeat' first|constructor|intro h)<;>refine' Lm ?_
 all_goals(first
  |exact Ag
  |exact Bh
  |omega
  |skip)):p:=h
theorem X1b{p:Prop}(h:p:=by
 refine' X0a _ ?_;(repeat' first|constructor|intro h)<;>refine' Lm ?_
 all_goals first|exact A5|exact Am|skip):p:=h
theorem X1c{p:Prop}(h:p:=by
 refine' X0a _ ?_;(repeat' first|constructor|intro h)<;>refine' Lm ?_
 all_goals first|exact A5|skip):p:=h
theorem X1d{p:Prop}(h:p:=by
 refine' X0a _ ?_;(repeat' first|constructor|intro h)<;>refine' Lm ?_
 all_goals first|exact Bz|skip):p:=h
theorem X1e{p:Prop}(h:p:=by
 refine' X0a _ ?_;(repeat' first|constructor|intro h)<;>refine' Lm ?_
 all_goals first|exact At|skip):p:=h
theorem X1f{p:Prop}(h:p:=by
 refine' X0a _ ?_;(repeat' first|constructor|intro h)<;>refine' Lm ?_
 all_goals first|exact C1|skip):p:=h
theorem X1g{p:Prop}(h:p:=by
 refine' X0a _ ?_;(repeat' first|constructor|intro h)<;>refine' Lm ?_
 all_goals first|exact Ag|exact(N3 _).symm|skip):p:=h
theorem X1h{p:Prop}(h:p:=by
 refine' X0a _ ?_;(repeat' first|constructor|intro h)<;>refine' Lm ?_
 all_goals(first
  |exact g
  |rfl
  |skip)):p:=h
theorem X2a{p:Prop}(h:p:=by
 refine' X0b _ ?_;(repeat' first|constructor|intro h)<;>refine' Lm ?_
 all_goals first|exact B7|skip):p:=h
theorem X2b{p:Prop}(h:p:=by
 refine' X0b _ ?_;(repeat' first|constructor|intro h)<;>refine' Lm ?_
 all_goals first|exact Aq|skip):p:=h
theorem X2c{p:Prop}(h:p:=by
 refine' X0b _ ?_;(repeat' first|constructor|intro h)<;>refine' Lm ?_
 all_goals(try simp only[q,u,v,Jv])
 all_goals first|rfl|omega|exact e|exact A8|skip):p:=h
theorem X2d{p:Prop}(h:p:=by
 refine' X0b _ ?_;(repeat' first|constructor|intro h)<;>refine' Lm ?_
 all_goals first
  |exact Aq
  |skip):p:=h
theorem X2e{p:Prop}(h:p:=by
 refine' X0b _ ?_;(repeat' first|constructor|intro h)<;>refine' Lm ?_
 all_goals first
  |exact Aq
  |exact Aj
  |skip):p:=h
theorem X2f{p:Prop}(h:p:=by
 refine' X0b _ ?_;(repeat' first|constructor|intro h)<;>refine' Lm ?_
 all_goals(try simp only[Jv,DD])
 all_goals first|exact Af|skip):p:=h
theorem X2g{p:Prop}(h:p:=by
 refine' X0b _ ?_;(repeat' first|constructor|intro h)<;>refine' Lm ?_
 all_goals(try simp only[In,Ip,DD,O]at*)
 all_goals(try first
  |exact A7
  |(intro _ _;left;rw[<-kE]))):p:=h
theorem X2h{p:Prop}(h:p:=by
 refine' X0b _ ?_;(repeat' first|constructor|intro h)<;>refine' Lm ?_
 all_goals(try simp only[Jv])
 all_goals first|exact By|skip):p:=h
theorem X3a{p:Prop}(h:p:=by
 refine' X0b _ ?_;(repeat' first|constructor|intro h)<;>refine' Lm ?_
 all_goals(try simp only[Jv,t,o,k1.1])
 all_goals first|exact By|skip):p:=h
theorem X3b{p:Prop}(h:p:=by
 refine' X0b _ ?_;(repeat' first|constructor|intro h)<;>refine' Lm ?_
 all_goals(try simp only[Jv,t,w,o,k1.1])
 all_goals first|exact By|skip):p:=h
theorem X3c{p:Prop}(h:p:=by
 refine' X0a _ ?_;(repeat' first|constructor|intro h)<;>refine' Lm ?_
 all_goals first|exact Bk|skip):p:=h
section
open Go.RowKit
theorem c47{P:Program}{w:World}{n:String}{g:Nat}{cs:Array Value}(a:P.globalNamed n=some g)(h:w.var? P n=some cs):g<w.heap.size:=by
 simp only[World.var?,a,M0]at h;split at h
 .rename_i b;exact(Kp.1 b).1
 .cases h
theorem c4j:laidOutB Tryz.prog=true:=E5
theorem b5n{W:World}{A:Nat->Prop}(j:∀b,¬A b){n:String}{g g0:Nat}{t:TypeId}{cs:Array Value}{fuel:Nat}{d:DataW Unit}{p:List MemPlace}{sz m:Nat}{f:Nat->List SV}
 (h:Tryz.prog.globalNamed n=some g) (l:(Tryz.prog.globals[g]?).map (·.type)=some t) (i:W.var? Tryz.prog n=some cs) (o:DataW.trod (λ_=>()) Tryz.prog W 0 (λ_=>true) false fuel t cs.toList=some (d,p))
 (q:Tryz.prog.globalNamed n=some g0) (a:(Tryz.prog.globals[g0]?).map (λc=>Yr Tryz.prog 10 c.type&&isVar Tryz.prog c.type)=some true) (r:VW d=true) (s:0<m) (u:d17 sz m f (Vw d)=true):
 (SV.rel sz m f 0 0).pure=true/\D W A BK (.rel sz m f 0 0) (.pointer (some ⟨g0,0,none⟩)):=by
 obtain rfl:=Kh (q.symm.trans h);obtain⟨c,v,rfl⟩:=Jk.1 l;rw[v]at a;simp only[Kn,K6,K9]at a;have e:=d11 c4j fuel c.type cs.toList (d,p) 10 a.1 a.2 o r;refine c22 (cs:=cs.toList) s (j g0) (c47 h i) (λk=> ?_) (by rw[e];exact u);rw[World.var?_cell h i k];simp
open Classical in
noncomputable def SL(F:Fam):List SV->Option (Prop×SV):=λzs=>if∃i,F.pre i/\zs=F.args i then some (True,.bool true)else none
theorem d3j{f:FuncId}{F:Fam}(this:PS f (SL F))(i:F.ι)(c:F.pre i)
 {w:World} {vals:List Value} (d:∀g t,QM g=some t->t.pure=true/\D w (λ_=>False) BK t (.pointer (some ⟨g,0,none⟩))) (j:DL w (λ_=>False) BK (F.args i) vals):
 Calls Tryz.prog f vals.toArray w λe a=>e=.returned (.bool true)/\Fr w.heap.size (λ_=>False) w a:=by
 refine(this.2 (λ_=>False) w (F.args i) vals True (.bool true) (λb h=>h.elim) d j ?_ trivial).mono ?_
 .unfold SL;rw[Jf ⟨i,c,rfl⟩]
 .rintro e a ⟨v,rfl,k,l⟩;cases k;exact⟨rfl,l⟩
theorem top{f:FuncId}{fn:Func}(c:Cs)(hc:c.OK)(F:Fam)(I:F.ι->Nat->Option Inv)(fy:∀i,F.res i=.bool true)(bi:∀i,BN (F.args i) (F.args i))(be:∀i,(F.args i).length<=fn.ntmps)
 (hf:Tryz.prog.funcs[f]?=some fn) (hb:fn.body.isSome=true) (hn:(fn.name== "runtime.NumGoroutine")=false) (f9:JH c.c2 (PZ c.gr) (fn.body.getD .skip)=true)
 (H:∀i,F.pre i->EZ (EX c.l c.x c.h c.fz c.c2 c.gr 0 (λ_=>true) (λ_=>none) c.fs) fn.ntmps (I i) (fn.body.getD .skip) ⟨NA (EX c.l c.x c.h c.fz c.c2 c.gr 0 (λ_=>true) (λ_=>none) c.fs) fn (F.res i),λ_ _=>False,NA (EX c.l c.x c.h c.fz c.c2 c.gr 0 (λ_=>true) (λ_=>none) c.fs) fn (F.res i)⟩ ⟨MI 0 (F.args i),[]⟩) (i:F.ι) (hp:F.pre i)
 {w:World} {vals:List Value} (hg:∀g t,QM g=some t->t.pure=true/\D w (λ_=>False) BK t (.pointer (some ⟨g,0,none⟩))) (hD:DL w (λ_=>False) BK (F.args i) vals):
 Calls Tryz.prog f vals.toArray w λe w'=>e=.returned (.bool true)/\Fr w.heap.size (λ_=>False) w w':=by
 have:=NU c hc F I (SL F) (λzs p s hk hp=>by
  unfold SL at hk;split at hk
  .rename_i Zf;obtain⟨i,hi,rfl⟩:=Zf;cases hk;exact⟨i,bi i,hi,(fy i).symm⟩
  .cases hk) be hf hb hn f9 H
 exact d3j this i hp hg hD
theorem b4y{w w':World}(h:Fr w.heap.size (λ_=>False) w w'):Below w.heap.size w w':=⟨h.os,h.tape,h.output,h.size,λk a=>h.block k a (λh=>h)⟩
theorem b32{H:Type}{enc:TypeId×Value->H}{P:Program}(e:laidOutB P=true){W f:World}(g:Below W.heap.size W f):∀{ts:List TypeId} {vs:List Value} {a:List (DataW H)} {ps:List MemPlace},
 (ts.all λt=>P.readableRec t&&decide (t<P.types.size))=true->DataW.TrodAll enc P W 0 (λ_=>true) true ts vs a ps->(∀x∈ps,x.block<W.heap.size)->DataW.TrodAll enc P f 0 (λb=>decide (b<W.heap.size)) true ts vs a ps
 | [],vs,a,ps,_,h,_=>by obtain⟨rfl,rfl,rfl⟩:=Go.ChangeShapes.trodAll_nil h;rfl
 |t::ts,vs,a,ps,c,h,i=>by obtain⟨v,vs',d,ds',p,q,rfl,rfl,rfl,j,k⟩:=Go.ChangeShapes.trodAll_cons h;simp only[List.all_cons,Ix]at c;exact⟨p,q,Below.trod e c.1.1 c.1.2 j g (λx hx=>i x En),b32 e g (by simpa using c.2) k (λx hx=>i x En),rfl⟩
theorem c7y{H:Type}{enc:TypeId×Value->H}{P:Program}(l:laidOutB P=true){a:Func}{s:ChangeSpec}{tb:TypeId}{W f:World}{args:Array Value}{b g:List (DataW H)}{before:List MemPlace}(i:s.vars=[])(m:a.resultTypes= #[tb])(c:P.underlying tb=some .bool)
 (d:s.fn H (b++g)={results:=[.lit (.bool true)],args:=b}) (n:(a.params.toList.all λt=>P.readableRec t&&decide (t<P.types.size))=true) (e:DataW.Whole enc P a.params.toList s.vars false W args.toList b g before) (j:Below W.heap.size W f):
 s.post enc P a false true false false W args (.bool true) f:=by
 have o:=e;obtain⟨p,q,r,k,rfl,Y1,nj⟩:=o;rw[i]at k;obtain⟨rfl,rfl⟩:=Go.ChangeShapes.trodVars_none k;refine⟨b,[],p++[],[],p,[],e,?_,?_,?_,j.frame _,λh=>Eg⟩
 .rw[d,m];exact Go.ChangeShapes.trodAll_mk1 (shut_bool c true)
 .rw[d];refine b32 l j n r (λx hx=> ?_);have:=e.lt x En;simpa using this
 .rw[d,i];rfl
end
end Go.Proofs.YtaihldljnlgnoaaGreatDoor.V
