/-
  Parts of the proof: V18 V19 R1 V20 M2 S1 S2 R2. Conditions: none.
-/
import Derived.Test.YtaihldljnlgnoaaGreatDoorScc4
import Derived.ProofKit
import Derived.LaidMore
import Derived.LaidHandle
import Derived.OpenShut
import Derived.Carry
import Derived.Stop.Joined
import Derived.WideKeyRuns
import Derived.Test.YtaihldljnlgnoaaGreatDoorRows
import Derived.Test.YtaihldljnlgnoaaGreatDoorChecked
set_option maxRecDepth 100000
set_option maxHeartbeats 40000000
namespace Go.Proofs.YtaihldljnlgnoaaGreatDoor.V
open Go
def BM:List SV->List SV->Prop
 | [],[]=>True
 |s::r,t::q=>s.le2 t/\BM r q
 |_,_=>False
theorem XA:∀{cs a:List SV},BM cs a->cs.length=a.length/\∀(i:Nat) (t:SV),a[i]?=some t->∃s,cs[i]?=some s/\s.le2 t
 | [],[],_=>⟨rfl,λi t h=>E6⟩
 |s::r,t::q,h=>by
  obtain⟨h1,b⟩:=XA h.2;refine⟨En,λi c ht=> ?_⟩;match i with
  |0=>simp at ht;subst ht;exact⟨s,rfl,h.1⟩
  |i+1=>simpa using b i c F9
 | [],_::_,h=>h.elim
 |_::_,[],h=>h.elim
def MT(n:Nat):List SV->List Entry
 | []=>[]
 |s::r=>⟨n,none,s⟩::MT (n+1) r
theorem b5k{t:Nat}{e:Entry}:∀(l:List SV) (n:Nat),CJ t (MT n l)=some e->e.guard=none/\n<=t/\l[t-n]?=some e.sv:=by
 intro l;induction l with
 |nil=>intro n h;simp[MT,CJ]at h
 |cons s r a=>
  intro n h;simp only[MT,CJ]at h;split at h
  .rename_i b;cases h;subst b;exact⟨rfl,J9 _,Dx⟩
  .obtain⟨c,h2,d⟩:=a (n+1) h;refine⟨c,Dv,?_⟩;rw[show t-n=(t-(n+1))+1 from Dv];simpa using d
def UT(E:Env)(st:St):ResultVar->Option SV
 |.tmp t=>(CK E st.ρ none (.tmp t)).bind (SV.roA st.own)
 |.cell t T=>(CK E st.ρ none (.tmp t)).bind λp=>match p with
  |.own k o=>(UK E.P st.own T (.own k o)).bind λr=>r.2.roA st.own
  |_=>none
def d9j(E:Env)(a:Func)(st:St):Option SV:=match a.results.toList with
 | [r]=>UT E st r
 |b=>(b.mapM (UT E st)).map .tup
def NK(E:Env)(a:Func)(s:SV)(st:St):Prop:=match d9j E a st with
 |some r=>r.le2 s
 |none=>False
structure Fam where
 ι:Type
 args:ι->List SV
 pre:ι->Prop
 res:ι->SV
def RQ(F:Fam)(k:List SV->Option (Prop×SV)):Prop:=∀a p s,k a=some (p,s)->p->∃i,BM a (F.args i)/\F.pre i/\s=F.res i
section
variable{E:Env}
def RO(tmps:Array Value):ResultVar->Sem Value
 |.tmp t=>pure (tmps.getD t undef)
 |.cell a t=>do loadVar t (<-asAddr (tmps.getD a undef))
theorem b3s(c:Func)(tmps:Array Value):results c tmps=(do let b<-c.results.mapM (RO tmps);pure (if h:b.size=1 then b[0]else .tuple b)):=by
 unfold results;have:RO tmps=λ(r:ResultVar)=>(match r with
  |.tmp t=>pure (tmps.getD t undef)
  |.cell a t=>do loadVar t (<-asAddr (tmps.getD a undef)):Sem Value):=by
  funext r;cases r<;>rfl
 rw[this];rfl
variable{B0:Nat}{X A:Nat->Prop}{w0:World}{nt:Nat}{st:St}{a:Act}{w:World}{μ:Mu}
theorem b7u(h:SD E B0 X A w0 nt st a w μ){r:ResultVar}{s:SV}(c:UT E st r=some s):∃v,(RO a.tmps r).run E.P w=.ok v w/\D w A BQ s v:=by
 have d:=h.opds (g:=none) (λq b e=>E3);have ro:∀{s t:SV} {v:Value},D w (held A μ) μ s v->s.roA st.own=some t->D w A BQ t v:=λf m=>Wx h.own (λ_ _ h=>h) (λ_ h=>.inl h) f m (λ_ _ h=>h);cases r with
 |tmp t=>
  simp only[UT,J8]at c;obtain⟨x,y,c⟩:=c;exact⟨_,rfl,ro (d _ _ y) c⟩
 |cell t T=>
  simp only[UT,J8]at c;obtain⟨p,z,c⟩:=c;split at c
  .rename_i k o;simp only[J8]at c;obtain⟨⟨q,x⟩,i,c⟩:=c;have B:q:=by
    simp only[UK,Im,Id]at i;obtain⟨n,_,cs,_,s',_,rfl,_⟩:=i;exact J5
   have j:=d _ _ z;obtain⟨u,l,f⟩:=b3n h.own (λ_ _ h=>h) j i B;refine⟨u,?_,ro f c⟩;generalize C:a.eval (.tmp t)=v at j l;have F:a.tmps.getD t undef=v:=C;cases j with
   |own hk=>
    simp only[RO,F,asAddr,Ie];simpa[Instr.loadAt,Instr.sureAddr]using l
  .cases c
theorem c4n(h:SD E B0 X A w0 nt st a w μ):∀(l:List ResultVar) (b:List SV),l.mapM (UT E st)=some b->∃c,(l.mapM (RO a.tmps)).run E.P w=.ok c w/\DL w A BQ b c:=by
 intro l;induction l with
 |nil=>intro b h;simp at h;subst h;exact⟨[],Dx,rfl,λi s v h=>E6⟩
 |cons r l g=>
  intro b hs;simp only[Lw,Im,Option.pure_def,Ju]at hs;obtain⟨s1,j,d,k,rfl⟩:=hs;obtain⟨v,hv,m⟩:=b7u h j;obtain⟨c,z8,f⟩:=g d k;refine⟨v::c,Hv,by simp[f.1],λi s n hs e=> ?_⟩;match i with
  |0=>simp at hs e;subst hs e;exact m
  |i+1=>exact f.2 i s n Fp (by simpa using e)
theorem b57(h:SD E B0 X A w0 nt st a w μ){c:Func}{s:SV}(b:d9j E c st=some s):∃v,(results c a.tmps).run E.P w=.ok v w/\D w A BQ s v:=by
 rw[b3s,Kt,Array.mapM_eq_mapM_toList,Sem.run_map];unfold d9j at b;split at b
 .rename_i r g;obtain⟨v,i,j⟩:=b7u h b;refine⟨v,?_,j⟩;rw[g,Lw,Kt,i];simp
 .rename_i rs k;simp only[J7]at b;obtain⟨l,f,rfl⟩:=b;obtain⟨d,m,e⟩:=c4n h _ l f;refine⟨.tuple d.toArray,?_,.tup d e.1 e.2⟩;rw[m];obtain⟨n,_⟩:=OI f;have o:d.length≠1:=by
   rw[e.1,n];intro p;match hl:c.results.toList,p with
   | [r],_=>exact k r hl
  simp[o]
theorem verify{P:Program}{glob:Nat->Option SV}{f:FuncId}{fn:Func}{code:Code}(E:Env)(R6:E.P=P)(R7:E.glob=glob)(T9:E.na=0)(hE:EnvOK E)(hC:GR E)(hm:P.follows .mixedOrders=true)(hf:P.funcs[f]?=some fn)(hb:fn.body=some code)(hn:(fn.name== "runtime.NumGoroutine")=false)
 (F:Fam) (I:F.ι->Nat->Option Inv) (k:List SV->Option (Prop×SV)) (hk:RQ F k) (bc:∀i,(F.args i).length<=fn.ntmps) (ff:JN E.c2 (Pc E.gr) code=true)
 (H:∀i,F.pre i->EV E fn.ntmps (I i) code ⟨NK E fn (F.res i),λ_ _=>False,NK E fn (F.res i)⟩ ⟨MT 0 (F.args i),[]⟩):c8f P glob f k:=by
 subst R6 R7;refine⟨⟨fn,hf,hn,by rw[hb];rfl⟩,λA w args vals pre s hA hg hD hr hp=> ?_⟩;obtain⟨i,bi,cw,rfl⟩:=hk args pre s hr hp;obtain⟨l1,l2⟩:=XA bi;have tn:vals.length<=fn.ntmps:=H3;refine calls_of_wp hf hb ?_;have hS:SD E w.heap.size (λ_=>False) A w fn.ntmps ⟨MT 0 (F.args i),[]⟩ {tmps:=vals.toArray++Array.replicate (fn.ntmps-vals.toArray.size) undef,defers:=[]} w BQ:=by
  refine⟨⟨λk x h=>E8,λk k' x x' b h=>E8,λk x b h=>E8,hA⟩,Fr.refl _ _ _,J9 _,λg s sh=>⟨(hg g s sh).1,?_⟩,rfl,E5,λt e he=> ?_,λ_ _=>rfl,λk x hx=>Hw⟩
  .exact Dg
  .obtain⟨h1,_,h3⟩:=b5k _ _ he;unfold CZ;rw[h1];simp only;rw[MY he];have b6:t<(F.args i).length:=(J4.1 h3).1;obtain⟨s0,bu,rk⟩:=l2 t e.sv Gf;have ve:t<vals.length:=H4;have hd:=hD.2 t s0 vals[t] bu (Iy ve);have dt:(vals.toArray++Array.replicate (fn.ntmps-vals.toArray.size) undef).getD t undef=vals[t]:=by
    simp[Array.getElem?_append,ve]
   rw[dt];have:=QI hd rk;exact Dh
 refine b6i hE hC hm code (I i) ⟨NK E fn (F.res i),λ_ _=>False,NK E fn (F.res i)⟩ _ _ _ w BQ ff hS ⟨λst a w' μ hs hr=> ?_,λi st a w' μ hs hr=>hr.elim,λst a w' μ hs hr=> ?_⟩ (H i cw);all_goals
  replace hr:NK E fn (F.res i) st:=hr;unfold NK at hr;split at hr
  .rename_i r gc;obtain⟨v,hv,hd⟩:=b57 hs gc;exact⟨hs.dfr,v,hv,v,rfl,QI hd hr,hs.fr⟩
  .exact hr.elim
def d11(st:St):SV->Prop
 |.osl k=>match st.own[k]? with
  |some (.row _ _ n f _)=>∀i,i<n->(f i).all SV.flat0=true
  |_=>False
 |.sl _ n _ _=>n=0
 |s=>if s.flat0 then True else False
def Sp(E:Env)(a:Func)(s:SV)(st:St):Prop:=match a.results.toList with
 | [.tmp t]=>match CK E st.ρ none (.tmp t)with
   |some b=>d11 st b/\NK E a s st
   |none=>False
 |_=>False
theorem d1k{w:World}{H:Nat->Prop}{μ:Mu}{x:Value}{T:TypeId}{sz n:Nat}{f:Nat->List SV}{c:Option Nat}{B:Nat}(hx:∀b,CN x b->¬b<B)(l:∀i,i<n->(f i).all SV.flat0=true)(h:DK w H μ x (.row T sz n f c)):D w (λb=>b<B) BQ (.sl sz n f c) x:=by
 obtain⟨a,m,rfl,hn,hm,hc,hl,q⟩:=h;rcases q with rfl|⟨b,o,e,r,rfl,g,ho,h1,t⟩
 .exact Cp
 .have u:=hx b (KD r);have k:∀i j,i<n->j<sz->o+i*sz+j<e.length:=λi j hi d=>by
   have:=MG hi d;have:n*sz<=m*sz:=Ka _ hn;omega
  refine .sl _ b o m (λi j=>e.getD (o+i*sz+j) undef) hn hm hc (λ_=>⟨rfl,u,PY g,λi j hi d=> ?_⟩) hl (λi j s hi hs=> ?_)
  .have:=k i j hi d;rw[SX g,Iy this];simp only[In,Iy this];exact Cq
  .have d:j<sz:=G5;have:=k i j hi d;simp only[In,Iy this];exact XH (Ja.1 (l i hi) s (J6 hs)) (t i j s _ hi hs (Iy this))
theorem c4t(h:SD E B0 (λ_=>False) A w0 nt st a w μ){s t:SV}{v:Value}(q:D w (held A μ) μ s v)(l:s.roA st.own=some t)(d:d11 st s):D w (λb=>b<B0) BQ t v:=by
 unfold d11 at d;split at d
 .rename_i k;split at d
  .rename_i T y n f c u;simp only[SV.roA,SV.ro,SV.ro1,u,Ju]at l;subst l;cases q with
   |osl p=>
   obtain⟨bl,e,z⟩:=h.own.blk _ _ p;rw[u]at e;cases e;refine d1k (λb B b6=> ?_) d z;rcases(h.own.rng _ _ b p B).2.2 with x|x
   .omega
   .exact x
  .exact d.elim
 .rename_i y n f c;subst d;simp only[SV.roA,SV.ro,SV.ro1,Ju]at l;subst l;cases q with
  |sl a b o m g C hx F b7 G hD=>exact .sl a b o m g C hx F (λh=>absurd h (M7 _)) G (λi j s H=>absurd H (Jq _))
 .split at d
  .rename_i r;have r:s.flat0=true:=r;have I:D w A BQ t v:=Wx h.own (λ_ _ h=>h) (λ_ h=>.inl h) q l (λ_ _ h=>h);have:t.flat0=true:=by
    revert l r;cases s<;>simp_all[SV.flat0,SV.roA,SV.ro,SV.ro1]
    all_goals(intros;subst_vars;simp_all[])
   exact XH this I
  .exact d.elim
theorem f7a{P:Program}{glob:Nat->Option SV}{f:FuncId}{fn:Func}{code:Code}(E:Env)(R6:E.P=P)(R7:E.glob=glob)(T9:E.na=0)(hE:EnvOK E)(hC:GR E)(hm:P.follows .mixedOrders=true)(hf:P.funcs[f]?=some fn)(hb:fn.body=some code)(hn:(fn.name== "runtime.NumGoroutine")=false)
 (F:Fam) (I:F.ι->Nat->Option Inv) (k:List SV->Option (Prop×SV)) (hk:RQ F k) (bc:∀i,(F.args i).length<=fn.ntmps) (ff:JN E.c2 (Pc E.gr) code=true)
 (H:∀i,F.pre i->EV E fn.ntmps (I i) code ⟨Sp E fn (F.res i),λ_ _=>False,Sp E fn (F.res i)⟩ ⟨MT 0 (F.args i),[]⟩):c8f P glob f k/\c87 P glob f k:=by
 subst R6 R7;refine⟨⟨⟨fn,hf,hn,by rw[hb];rfl⟩,?_⟩,?_⟩;all_goals
  intro A w args vals pre s hA hg hD hr hp;obtain⟨i,bi,cw,rfl⟩:=hk args pre s hr hp;obtain⟨l1,l2⟩:=XA bi;have tn:vals.length<=fn.ntmps:=H3;refine calls_of_wp hf hb ?_;have hS:SD E w.heap.size (λ_=>False) A w fn.ntmps ⟨MT 0 (F.args i),[]⟩ {tmps:=vals.toArray++Array.replicate (fn.ntmps-vals.toArray.size) undef,defers:=[]} w BQ:=by
   refine⟨⟨λk x h=>E8,λk k' x x' b h=>E8,λk x b h=>E8,hA⟩,Fr.refl _ _ _,J9 _,λg s sh=>⟨(hg g s sh).1,?_⟩,rfl,E5,λt e he=> ?_,λ_ _=>rfl,λk x hx=>Hw⟩
   .exact Dg
   .obtain⟨h1,_,h3⟩:=b5k _ _ he;unfold CZ;rw[h1];simp only;rw[MY he];have b6:t<(F.args i).length:=(J4.1 h3).1;obtain⟨s0,bu,rk⟩:=l2 t e.sv Gf;have ve:t<vals.length:=H4;have hd:=hD.2 t s0 vals[t] bu (Iy ve);have dt:(vals.toArray++Array.replicate (fn.ntmps-vals.toArray.size) undef).getD t undef=vals[t]:=by
     simp[Array.getElem?_append,ve]
    rw[dt];have:=QI hd rk;exact Dh
  refine b6i hE hC hm code (I i) ⟨Sp E fn (F.res i),λ_ _=>False,Sp E fn (F.res i)⟩ _ _ _ w BQ ff hS ⟨λst a w' μ hs hr=> ?_,λi st a w' μ hs hr=>hr.elim,λst a w' μ hs hr=> ?_⟩ (H i cw);all_goals
   replace hr:Sp E fn (F.res i) st:=hr;unfold Sp at hr;split at hr;rotate_left
   .exact hr.elim
   rename_i t W1;split at hr;rotate_left
   .exact hr.elim
   rename_i s0 bu;obtain⟨bk,hr⟩:=hr;unfold NK at hr;split at hr
   .rename_i r gc;obtain⟨v,hv,hd⟩:=b57 hs gc;first
     |exact⟨hs.dfr,v,hv,v,rfl,QI hd hr,hs.fr⟩
     |(refine⟨hs.dfr,v,hv,v,rfl,?_,hs.fr⟩
       have jt:=hs.opds (g:=none) (λq b e=>E3) _ _ bu;unfold d9j at gc;rw[W1]at gc;simp only[UT,bu,Lq]at gc;have zj:a.eval (.tmp t)=v:=by rw[b3s,Kt,Array.mapM_eq_mapM_toList,Sem.run_map,W1]at hv;simp[RO]at hv;show a.tmps.getD t undef=v;rw[<-hv];simp
       rw[zj]at jt;exact QI (c4t hs jt gc bk) hr)
   .exact hr.elim
end
section
variable{H:Type}{enc:TypeId × Value->H}{P:Program}{w:World}{base:Nat}{sp:Nat->Bool}{held:Bool}{fuel:Nat}{t:TypeId}{cs:List Value}{x:DataW H × List MemPlace}
theorem d5q{k:IntKind}{n:Int}(h:(Lit.int k n).wf=true):AE k n:=by simp only[Lit.wf,Ij]at h;cases k<;>simp[IntKind.min,IntKind.max,IntKind.bits,IntKind.signed]at h<;>simp only[AE]<;>omega
theorem XZ{k:IntKind}(a:P.underlying t=some (.int k))(h:DataW.trod enc P w base sp held fuel t cs=some x):∃n,cs=[.int k n]/\AE k n:=by obtain⟨n,e,_,b⟩:=DataW.trod_int a h;exact⟨n,e,d5q b⟩
theorem d5x{fs:Array Field}(a:P.underlying t=some (.struct fs))(h:DataW.trod enc P w base sp held fuel t cs=some x):
 cs.length=P.cellsOf t/\∀f∈fs.toList,∃m y,DataW.trod enc P w base sp held m f.type ((cs.drop f.offset).take (P.cellsOf f.type))=some y:=by
 obtain⟨b,m,rfl,_,c,pt,hx⟩:=DataW.trod_struct a h;refine⟨c,λf d=> ?_⟩;obtain⟨i,hi,e⟩:=Jw.1 d;have g:i<fs.size:=Er;have:=hx i f (by rw[M2 g,<-e];simp);refine⟨m,b[i]'Dv,?_⟩;rw[this,Iy Dv]
theorem c8k(b o i:Nat):(⟨b,o,none⟩:Addr).add i=⟨b,o+i,none⟩:=by
 unfold Addr.add;split
 .rename_i h;subst h;rfl
 .rfl
theorem rd_sl{α:Type}(d0:α)(encS:α->List SV)(ok:α->Prop){e:TypeId}{sz:Nat}(L:P.underlying t=some (.slice e))(M:P.cellsOf e=sz)(H:0<sz){A:Nat->Prop}(N:∀b,¬A b)
 (O:∀m R y,DataW.trod enc P w base sp held m e R=some y->∃q,ok q/\(encS q).length=sz/\(encS q).all SV.pure=true/\(∀v∈R,v.oneCell'=true)/\∀(j:Nat) (s:SV) (v:Value),(encS q)[j]?=some s->R[j]?=some v->D w A BQ s v)
 (h:DataW.trod enc P w base sp held fuel t cs=some x):
 ∃(l:List α) (v:Value),cs=[v]/\v.oneCell'=true/\D w A BQ (.sl sz l.length (λi=>encS (l.getD i d0)) none) v/\∀q∈l,ok q:=by
 rcases DataW.trod_slice L h with⟨rfl,_⟩|⟨a,len,f,elems,rest,m,rfl,rfl,_,hb,B,S,V0,U,_,_⟩
 .exact⟨[],_,rfl,rfl,.sl none 0 0 0 (λ_ _=>undef) (J9 _) (Je _) (.inl rfl) (λh=>absurd h Dx) (λi d=>absurd d Dx) (λi j s d=>absurd d Dx),λq r=>by cases r⟩
 .have g:∀i,i<len->∃(R:List Value) (q:α),(R.length=sz/\∀j,j<sz->w.cell? ((a.add (i*sz)).add j)=R[j]?)/\ok q/\(encS q).length=sz/\(encS q).all SV.pure=true/\(∀v∈R,v.oneCell'=true)/\∀(j:Nat) (s:SV) (v:Value),(encS q)[j]?=some s->R[j]?=some v->D w A BQ s v:=by
   intro i d;have:=U i d;rw[M,Iy Dv]at this;rw[J8]at this;obtain⟨R,V,W⟩:=this;obtain⟨_,X,Y⟩:=World.cells?_some V;obtain⟨q,r⟩:=O m R _ W;exact⟨R,q,⟨X,Y⟩,r⟩
  let G:Nat->List Value:=λi=>if d:i<len then(g i d).choose else []
  let Q:Nat->α:=λi=>if d:i<len then(g i d).choose_spec.choose else d0
  have k:∀i,i<len->((G i).length=sz/\∀j,j<sz->w.cell? ((a.add (i*sz)).add j)=(G i)[j]?)/\ok (Q i)/\(encS (Q i)).length=sz/\(encS (Q i)).all SV.pure=true/\(∀v∈G i,v.oneCell'=true)/\∀(j:Nat) (s:SV) (v:Value),(encS (Q i))[j]?=some s->(G i)[j]?=some v->D w A BQ s v:=by intro i d;simp only[G,Q,d,dif_pos];exact(g i d).choose_spec.choose_spec
  have I:∀i,i<len->((List.range len).map Q).getD i d0=Q i:=λi d=>by simp[d]
  have Z:((List.range len).map Q).length=len:=Dx;have u:0<len->∃b o,a=⟨b,o,none⟩:=by
   intro n;obtain⟨⟨g1,C⟩,_⟩:=k 0 n;have:=C 0 H;rw[Iy Dv]at this;have hs:=World.cell?_spot this;obtain⟨b,o,s⟩:=a;have:s=none:=by simpa[Addr.add]using hs
   exact⟨b,o,by rw[this]⟩
  have J:∀b o,a=⟨b,o,none⟩->∀i j,i<len->j<sz->w.cell? ⟨b,o+i*sz+j,none⟩=some ((G i).getD j undef):=by rintro b o rfl i j d z;obtain⟨⟨g1,C⟩,_⟩:=k i d;have:=C j z;rw[Iy Dv]at this;rw[c8k,c8k]at this;rw[Ix,Iy Dv,this];rfl
  have K:∀(b o:Nat),(0<len->a=⟨b,o,none⟩)->D w A BQ (.sl sz ((List.range len).map Q).length (λi=>encS (((List.range len).map Q).getD i d0)) none) (.slice (some a) len f):=by
   intro b o E;rw[Z];refine .sl (some a) b o f (λi j=>(G i).getD j undef) B S (.inl rfl) (λn=> ?_) (λi d=> ?_) (λi j s d hs=> ?_)
   .have F:=E n;refine⟨by rw[F],N b,?_,λi j d z=>⟨J b o F i j d z,?_⟩⟩
    .have:=J b o F 0 0 n H;unfold World.cell? at this;split at this
     .rename_i c T fz hc;exact(K9.1 hc).1
     .cases this
    .obtain⟨⟨g1,_⟩,_,_,_,g5,_⟩:=k i d;show ((G i).getD j undef).oneCell'=true;rw[Ix,Iy Dv];exact g5 _ (K2 _)
   .rw[I i d];exact⟨(k i d).2.2.1,(k i d).2.2.2.1⟩
   .rw[I i d]at hs;obtain⟨⟨g1,_⟩,_,g3,_,_,g6⟩:=k i d;have z:j<sz:=by rw[<-g3];exact(J4.1 hs).1
    refine g6 j s _ hs ?_;simp only[Ix];rw[Iy Dv];rfl
  refine⟨(List.range len).map Q,.slice (some a) len f,rfl,rfl,?_,λq r=> ?_⟩
  .rcases Kg len with n|n
   .exact K 0 0 (λh=>absurd h Dv)
   .obtain⟨b,o,e⟩:=u n;exact K b o (λ_=>e)
  .obtain⟨i,d,rfl⟩:=Jp.1 r;exact(k i (Jn.1 d)).2.1
mutual
def WL:DataW H->List Value
 |.lit (.int k n)=>[.int k n]
 |.lit (.bool b)=>[.bool b]
 |.agg a=>f2f a
 |_=>[]
def f2f:List (DataW H)->List Value
 | []=>[]
 |d::r=>WL d++f2f r
end
mutual
def Vj:DataW H->Bool
 |.lit (.int _ _)=>true
 |.lit (.bool _)=>true
 |.agg a=>c85 a
 |_=>false
def c85:List (DataW H)->Bool
 | []=>true
 |d::r=>Vj d&&c85 r
end
theorem c0h:∀l:List (DataW H),f2f l=(l.map WL).flatten
 | []=>rfl
 |d::r=>by simp[f2f,c0h r]
theorem b3j:∀{l:List (DataW H)},c85 l=true->∀d∈l,Vj d=true
 | [],_,d,h=>E8
 |x::r,h,d,a=>by
  simp only[c85,Jt]at h;rcases Jd.1 a with rfl|a
  .exact h.1
  .exact b3j h.2 d a
theorem b5y:∀(b:List Nat) (cs:List Value) (a:List (List Value)),a.length=b.length->cs.length=b.sum->(∀(i s:Nat) (y:List Value),b[i]?=some s->a[i]?=some y->(cs.drop (b.take i).sum).take s=y)->cs=a.flatten:=by
 intro b;induction b with
 |nil=>
  intro cs a c hc _;obtain rfl:a=[]:=Lp.1 c;obtain rfl:cs=[]:=Lp.1 Ep;rfl
 |cons s b f=>
  intro cs a c hc d;match a,c with
  |y::a,c=>
   have e:=d 0 s y rfl rfl;simp at e;have:=f (cs.drop s) a (by simpa using c) (by simp at hc⊢;omega) (λi g j hs k=>by have:=d (i+1) g j Fp (by simpa using k);simp only[List.take_succ_cons,List.sum_cons]at this;rw[List.drop_drop];exact this)
   rw[List.flatten_cons,<-this,<-e,List.take_append_drop]
theorem f20{P:Program}{t:TypeId}(h:isVar P t=true):t<P.types.size:=by simp only[isVar,Ij]at h;exact h.1
theorem d0q(a:laidOutB P=true)(h:isVar P t=true):rowFine P t=true:=by simp only[laidOutB,Jt]at a;exact Ja.1 a.1.1 t (Jn.2 (f20 h))
def d6f(P:Program):Nat->TypeId->Bool
 |0,_=>false
 |n+1,t=>match P.underlying t with
  |some (.int _)|some .bool=>true
  |some (.struct a)=>a.toList.all λf=>d6f P n f.type
  |some (.array _ e)=>d6f P n e
  |_=>false
theorem d1d(J:laidOutB P=true):∀(fuel:Nat) (t:TypeId) (cs:List Value) (x:DataW H×List MemPlace) (n:Nat),d6f P n t=true->isVar P t=true->DataW.trod enc P w base sp held fuel t cs=some x->Vj x.1=true->cs=WL x.1:=by
 intro fuel;induction fuel with
 |zero=>intro t cs x n _ _ h;simp[DataW.trod]at h
 |succ m E=>
  intro t cs x n a F h o;match n,a with
  |G+1,a=>
  unfold d6f at a;have c:=d0q J F;unfold rowFine at c;simp only[F,Bool.not_true,N4]at c;cases hu:P.underlying t with
  |none=>simp[DataW.trod,hu]at h
  |some T=>
   cases T with
   |int k=>
    obtain⟨n,rfl,rfl,_⟩:=DataW.trod_int hu h;rfl
   |bool=>
    obtain⟨b,rfl,rfl⟩:=DataW.trod_bool hu h;rfl
   |struct I=>
    rw[hu]at c;simp only[Is,Ja]at c;obtain⟨⟨q,r⟩,K⟩:=c;obtain⟨L,u,em,rfl,v,A,hx⟩:=DataW.trod_struct hu h;obtain rfl:m=u:=Dv;simp only[Vj]at o;have B:=b3j o;simp only[WL,c0h,Ma];refine b5y (I.toList.map λf=>P.cellsOf f.type) cs _ (by simp[A]) (by rw[v,r]) (λi s y hs d=> ?_);rw[Jr,J7]at hs d;obtain⟨f,g,rfl⟩:=hs;obtain⟨z,j,rfl⟩:=d;have l:i<I.toList.length:=(J4.1 g).1;have C:=K i (Jn.2 l);rw[g]at C;simp only[Lr]at C;have:=hx i f (by simpa using g);rw[j]at this;rw[<-List.map_take]at*;rw[<-C];rw[hu]at a;exact E f.type _ z G (Ja.1 a f (J6 g)) (q f (J6 g)) this (B z.1 (List.mem_map_of_mem (J6 j)))
   |array n e=>
    rw[hu]at c;simp only[Is]at c;obtain⟨M,r⟩:=c;obtain⟨L,u,em,rfl,v,A,hx⟩:=DataW.trod_array hu h;obtain rfl:m=u:=Dv;simp only[Vj]at o;have B:=b3j o;simp only[WL,c0h,Ma];refine b5y (List.replicate n (P.cellsOf e)) cs _ (by simp[A]) (by rw[v,r];simp) (λi s y hs d=> ?_);rw[Jr,J7]at d;obtain⟨z,j,rfl⟩:=d;have l:i<n:=by have:=(J4.1 hs).1;simpa using this
    have hs':s=P.cellsOf e:=by simp[l]at hs;exact hs.symm
    subst hs';have:=hx i l;rw[j]at this;rw[List.take_replicate,List.sum_replicate_nat,Nat.min_eq_left (Nat.le_of_lt l)];rw[hu]at a;exact E e _ z G a M this (B z.1 (List.mem_map_of_mem (J6 j)))
   |_=>
    simp[hu]at a
end
def svIs:SV->Value->Bool
 |.int k n,.int d m=>k==d&&n==m
 |.bool b,.bool c=>b==c
 |.clo f [],.func (.func g) a b=>f==g&&a.isEmpty&&b.isEmpty
 |_,_=>false
theorem d6q{w:World}{H:Nat->Prop}{μ:Mu}{s:SV}{v:Value}(h:svIs s v=true):D w H μ s v/\v.oneCell'=true/\s.pure=true:=by
 unfold svIs at h;split at h
 .simp only[Is]at h;obtain⟨rfl,rfl⟩:=h;exact⟨.int,rfl,rfl⟩
 .simp only[Lr]at h;subst h;exact⟨.bool,rfl,rfl⟩
 .rename_i f g a b;simp only[Is,Array.isEmpty_iff]at h;obtain⟨⟨rfl,rfl⟩,rfl⟩:=h;exact⟨.clo [] rfl (λi s v h=>E6),rfl,rfl⟩
 .cases h
def d1j(sz n:Nat)(f:Nat->List SV)(cs:List Value):Bool:=
 cs.length==n*sz&&(List.range n).all λi=>(f i).length==sz&&((f i).zip ((cs.drop (i*sz)).take sz)).all λx=>svIs x.1 x.2
theorem c29{w:World}{A:Nat->Prop}{μ:Mu}{g sz n:Nat}{f:Nat->List SV}{cs:List Value}(o:0<n)(p:¬A g)(q:g<w.heap.size)(r:∀k,w.cell? ⟨g,k,none⟩=cs[k]?)(c:d1j sz n f cs=true):(SV.rel sz n f 0 0).pure=true/\D w A μ (.rel sz n f 0 0) (.pointer (some ⟨g,0,none⟩)):=by
 simp only[d1j,Is,Ja]at c;obtain⟨fu,c⟩:=c;have m:∀i j,i<n->j<sz->i*sz+j<cs.length:=λi j a b=>by have:=Ka sz (show i+1<=n from a);rw[Lx,Nat.one_mul]at this;omega
 have h:∀i j,i<n->j<sz->∀s,(f i)[j]?=some s->svIs s (cs.getD (i*sz+j) undef)=true:=by intro i j a b s hs;obtain⟨h1,t⟩:=c i (Jn.2 a);refine t (s,cs.getD (i*sz+j) undef) (Kr.2 ⟨j,?_⟩);rw[List.getElem?_zip_eq_some];refine⟨hs,?_⟩;rw[List.getElem?_take,Iz b,List.getElem?_drop,Ix,Iy (m i j a b)];rfl
 have d:∀i,i<n->(f i).length=sz:=λi a=>(c i (Jn.2 a)).1;refine⟨rfl,?_⟩;have:=D.rel (w:=w) (H:=A) (μ:=μ) (sz:=sz) (n:=n) (i:=0) (off:=0) (f:=f) g 0 (λi j=>cs.getD (i*sz+j) undef) o p ⟨q,λi j a b=>⟨?_,?_⟩⟩ (λi a=>⟨d i a,?_⟩) (λi j s a hs=> ?_)
 .simpa using this
 .show w.cell? ⟨g,0+i*sz+j,none⟩=some (cs.getD (i*sz+j) undef);rw[Kv,r,Ix,Iy (m i j a b)];rfl
 .have u:j<(f i).length:=by rw[d i a];exact b
  exact(d6q (w:=w) (H:=A) (μ:=μ) (h i j a b _ (Iy u))).2.1
 .rw[Ja];intro s hs;obtain⟨j,b,e⟩:=Jw.1 hs;have l:j<sz:=by rw[<-d i a];exact b
  exact(d6q (w:=w) (H:=A) (μ:=μ) (h i j a l s (by rw[Iy b,e]))).2.2
 .have l:j<sz:=by rw[<-d i a];exact(J4.1 hs).1
  exact(d6q (h i j a l s hs)).1
structure FamH where
 ι:Type
 args:ι->List SV
 own:ι->List Blk
 pre:ι->Prop
 res:ι->SV
 own':ι->List Blk
 chg:List Nat
def LawH(F:FamH)(h:HK):Prop:=∀b a r,h b a=some r->r.pre->∃i,BM b (F.args i)/\a.length=(F.own i).length/\SU (F.own i).length a (F.own i)/\F.pre i/\r.res=F.res i/\r.own=F.own' i/\r.chg=F.chg
def Us(E:Env)(st:St):ResultVar->Option SV
 |.tmp t=>CK E st.ρ none (.tmp t)
 |.cell t T=>(CK E st.ρ none (.tmp t)).bind λp=>match p with
  |.own k o=>(UK E.P st.own T (.own k o)).map (·.2)
  |_=>none
def f81(E:Env)(a:Func)(st:St):Option SV:=match a.results.toList with
 | [r]=>Us E st r
 |b=>(b.mapM (Us E st)).map .tup
def PU(E:Env)(a:Func)(F:FamH)(i:F.ι)(st:St):Prop:=match f81 E a st with
 |some r=>r.le2 (F.res i)/\(if(F.res i).in2 (F.own' i).length=true then True else False)/\SU (F.own' i).length st.own (F.own' i)
 |none=>False
section
variable{E:Env}{B0:Nat}{X A:Nat->Prop}{w0:World}{nt:Nat}{st:St}{a:Act}{w:World}{μ:Mu}
theorem b7q(h:SD E B0 X A w0 nt st a w μ){r:ResultVar}{s:SV}(c:Us E st r=some s):∃v,(RO a.tmps r).run E.P w=.ok v w/\D w (held A μ) μ s v:=by
 have d:=h.opds (g:=none) (λq b e=>E3);cases r with
 |tmp t=>
  simp only[Us]at c;exact⟨_,rfl,d _ _ c⟩
 |cell t T=>
  simp only[Us,J8]at c;obtain⟨p,l,c⟩:=c;split at c
  .rename_i k o;simp only[J7]at c;obtain⟨⟨q,s0⟩,f,rfl⟩:=c;have m:q:=by
    simp only[UK,Im,Id]at f;obtain⟨n,_,cs,_,s',_,rfl,_⟩:=f;exact J5
   have i:=d _ _ l;obtain⟨u,j,x⟩:=b3n h.own (λ_ _ h=>h) i f m;refine⟨u,?_,x⟩;generalize y:a.eval (.tmp t)=v at i j;have z:a.tmps.getD t undef=v:=y;cases i with
   |own hk=>
    simp only[RO,z,asAddr,Ie];simpa[Instr.loadAt,Instr.sureAddr]using j
  .cases c
theorem c4v(h:SD E B0 X A w0 nt st a w μ):∀(l:List ResultVar) (b:List SV),l.mapM (Us E st)=some b->∃c,(l.mapM (RO a.tmps)).run E.P w=.ok c w/\DL w (held A μ) μ b c:=by
 intro l;induction l with
 |nil=>intro b h;simp at h;subst h;exact⟨[],Dx,rfl,λi s v h=>E6⟩
 |cons r l g=>
  intro b hs;simp only[Lw,Im,Option.pure_def,Ju]at hs;obtain⟨s1,j,d,k,rfl⟩:=hs;obtain⟨v,hv,m⟩:=b7q h j;obtain⟨c,z8,f⟩:=g d k;refine⟨v::c,Hv,by simp[f.1],λi s n hs e=> ?_⟩;match i with
  |0=>simp at hs e;subst hs e;exact m
  |i+1=>exact f.2 i s n Fp (by simpa using e)
theorem d3c(h:SD E B0 X A w0 nt st a w μ){c:Func}{s:SV}(b:f81 E c st=some s):∃v,(results c a.tmps).run E.P w=.ok v w/\D w (held A μ) μ s v:=by
 rw[b3s,Kt,Array.mapM_eq_mapM_toList,Sem.run_map];unfold f81 at b;split at b
 .rename_i r g;obtain⟨v,i,j⟩:=b7q h b;refine⟨v,?_,j⟩;rw[g,Lw,Kt,i];simp
 .rename_i rs k;simp only[J7]at b;obtain⟨l,f,rfl⟩:=b;obtain⟨d,m,e⟩:=c4v h _ l f;refine⟨.tuple d.toArray,?_,.tup d e.1 e.2⟩;rw[m];obtain⟨n,_⟩:=OI f;have o:d.length≠1:=by
   rw[e.1,n];intro p;match hl:c.results.toList,p with
   | [r],_=>exact k r hl
  simp[o]
end
structure GhX where
 g0:List Ghost:=[]
 gx:St->List Ghost:=λ_=>[]
def inG(E:Env)(G:GhX)(K:St->Prop)(st:St):Prop:=match G.g0 with
 | []=>K st
 |g::a=>RB E K (g::a) st
def QM(E:Env)(G:GhX)(K:St->Prop)(st:St):Prop:=match G.gx st with
 | []=>K st
 |g::a=>RB E K (g::a) st
theorem f93{P:Program}{glob:Nat->Option SV}{f:FuncId}{fn:Func}{code:Code}(F:FamH)(E:(i:F.ι)->Mu->Env)(R6:∀i μ,(E i μ).P=P)(R7:∀i μ,(E i μ).glob=glob)(T9:∀i μ,(E i μ).na=(F.own i).length/\(E i μ).ax=(λk=> !F.chg.contains k)/\(E i μ).av=μ)
 (hE:∀i μ,EnvOK (E i μ)) (hC:∀i μ,GR (E i μ)) (hm:P.follows .mixedOrders=true)
 (hf:P.funcs[f]?=some fn) (hb:fn.body=some code) (hn:(fn.name== "runtime.NumGoroutine")=false) (I:F.ι->Nat->Option Inv) (h:HK) (hh:LawH F h) (bc:∀i,(F.args i).length<=fn.ntmps) (j5:∀i,(F.own i).length<=(F.own' i).length) (G:GhX) (ff:∀i μ,JN (E i μ).c2 (Pc (E i μ).gr) code=true)
 (H:∀i μ,F.pre i->inG (E i μ) G (EV (E i μ) fn.ntmps (I i) code ⟨QM (E i μ) G (PU (E i μ) fn F i),λ_ _=>False,QM (E i μ) G (PU (E i μ) fn F i)⟩) ⟨MT 0 (F.args i),F.own i⟩):d4q P glob f h:=by
 refine⟨⟨fn,hf,hn,by rw[hb];rfl⟩,λA w args vals own μ r hA hg hO da hD hr hp=> ?_⟩;obtain⟨i,bi,jy,wj,cw,e1,e2,e3⟩:=hh args own r hr hp;have hEP':=R6 i μ;subst hEP';obtain⟨l1,l2⟩:=XA bi;have tn:vals.length<=fn.ntmps:=H3;have qc:cut (F.own i).length μ=μ:=by
  funext k;unfold cut;split
  .rfl
  .rename_i hk;exact(da k Dv).symm
 obtain⟨Yu,Zw,Yv⟩:=T9 i μ;refine calls_of_wp hf hb ?_;have hS:SD (E i μ) w.heap.size (VN μ) A w fn.ntmps ⟨MT 0 (F.args i),F.own i⟩ {tmps:=vals.toArray++Array.replicate (fn.ntmps-vals.toArray.size) undef,defers:=[]} w μ:=by
  refine⟨⟨λk x hk=> ?_,hO.inj,λk x b hk hx=>⟨(hO.rng k x b hk hx).1,(hO.rng k x b hk hx).2.1,.inr ⟨k,x,hk,hx⟩⟩,hA⟩,Fr.refl _ _ _,J9 _,λg s sh=> ?_,rfl,E5,λt e he=> ?_,λk hk=>da k (by rw[jy];exact hk),λk x hx=> ?_⟩
  .obtain⟨bl,e,ba⟩:=hO.blk k x hk;have b6:k<(F.own i).length:=by rw[<-jy];exact(J4.1 e).1
   obtain⟨b,e2,bi⟩:=b2s wj k _ (Iy b6);rw[e]at e2;cases e2;refine⟨_,Iy b6,?_⟩;have:=Blk.le_sound (H':=held A μ) (λ_ h=>h) ba bi;rwa[qc]at this
  .rw[R7]at sh;exact⟨(hg g s sh).1,(hg g s sh).2.keep ⟨J9 _,λ_ _ _=>rfl,λ_ _ h=>h,λ_ _ h=>E8⟩⟩
  .obtain⟨h1,_,h3⟩:=b5k _ _ he;unfold CZ;rw[h1];simp only;rw[MY he];have b6:t<(F.args i).length:=(J4.1 h3).1;obtain⟨s0,bu,rk⟩:=l2 t e.sv Gf;have ve:t<vals.length:=H4;have hd:=hD.2 t s0 vals[t] bu (Iy ve);have dt:(vals.toArray++Array.replicate (fn.ntmps-vals.toArray.size) undef).getD t undef=vals[t]:=by
    simp[Array.getElem?_append,ve]
   rw[dt];exact QI hd rk
  .have qf:=Env.an_ak hx;unfold Env.an at hx;rw[Iz qf,Yv]at hx;exact hx
 have bg:∃st0 μ0,SD (E i μ) w.heap.size (VN μ) A w fn.ntmps st0 {tmps:=vals.toArray++Array.replicate (fn.ntmps-vals.toArray.size) undef,defers:=[]} w μ0/\EV (E i μ) fn.ntmps (I i) code ⟨QM (E i μ) G (PU (E i μ) fn F i),λ_ _=>False,QM (E i μ) G (PU (E i μ) fn F i)⟩ st0:=by
  have h0:=H i μ cw;unfold inG at h0;split at h0
  .exact⟨_,_,hS,h0⟩
  .exact Xf _ hS h0
 obtain⟨st0,μ0,hS0,hH0⟩:=bg;refine b6i (hE i μ) (hC i μ) hm code (I i) ⟨QM (E i μ) G (PU (E i μ) fn F i),λ_ _=>False,QM (E i μ) G (PU (E i μ) fn F i)⟩ _ _ _ w μ0 (ff i μ) hS0 ⟨λst1 a w' μ1 hs hr=> ?_,λi st a w' μ2 hs hr=>hr.elim,λst1 a w' μ1 hs hr=> ?_⟩ hH0;all_goals
  have hout:∃st μ2,SD (E i μ) w.heap.size (VN μ) A w fn.ntmps st a w' μ2/\PU (E i μ) fn F i st:=by
   replace hr:QM (E i μ) G (PU (E i μ) fn F i) st1:=hr;unfold QM at hr;split at hr
   .exact⟨_,_,hs,hr⟩
   .exact Xf _ hs hr
  clear hr hs;obtain⟨st,μ2,hs,hr⟩:=hout;unfold PU at hr;split at hr
  .rename_i rs gc;obtain⟨hr1,Yw,hr3⟩:=hr;have bg:(F.res i).in2 (F.own' i).length=true:=by
    split at Yw
    .assumption
    .exact Yw.elim
   obtain⟨v,hv,hd⟩:=d3c hs gc;have hH:∀b,held A (cut (F.own' i).length μ2) b->held A μ2 b:=by
    intro b hb;rcases hb with hb|⟨k,x,hk,hx⟩
    .exact .inl hb
    .refine .inr ⟨k,x,?_,hx⟩;unfold cut at hk;split at hk
     .exact hk
     .cases hk
   have pn:∀{k x},cut (F.own' i).length μ2 k=some x->k<(F.own' i).length/\μ2 k=some x:=by
    intro k x hk;unfold cut at hk;split at hk
    .exact⟨‹_›,hk⟩
    .cases hk
   rw[e1,e2,e3];refine⟨hs.dfr,v,hv,v,cut (F.own' i).length μ2,rfl,⟨λk x hk=> ?_,λk k' x x' b hk dh=>hs.own.inj k k' x x' b (pn hk).2 (pn dh).2,λk x b hk hx=> ?_,hs.own.bnd⟩,λk hk=>by unfold cut;rw[if_neg Dv],c2q hH (QI hd hr1) bg,λk x hk hc hx=> ?_,hs.fr⟩
   .obtain⟨b6,hk⟩:=pn hk;obtain⟨bl,e1,hb⟩:=hs.own.blk k x hk;obtain⟨b,e2,bi⟩:=b2s hr3 k _ (Iy b6);rw[e1]at e2;cases e2;exact⟨_,Iy b6,Blk.le_sound hH hb bi⟩
   .exact hs.own.rng k x b (pn hk).2 hx
   .have qf:(E i μ).ak k=true:=by
     unfold Env.ak;rw[Yu,Zw];simp only[Ij];exact⟨Dv,by rw[hc];rfl⟩
    have:=hs.anc k x (by unfold Env.an;rw[if_pos qf,Yv];exact hx);have te:k<(F.own' i).length:=by exact K0 Dv (j5 i)
    unfold cut;rw[Iz te];exact this
  .exact hr.elim
def Qn(P:Program):Nat->TypeId->Nat->Bool
 |0,_,_=>false
 |d+1,T,n=>match P.underlying T with
  |some .bool|some (.int _)|some .string=>decide (n=1)&&decide (CX P T=some 1)
  |some (.struct a)=>a.toList.all λf=>match CX P f.type with
   |some k=>decide (f.offset+k<=n)&&Qn P d f.type k
   |none=>false
  |some (.array len e)=>match CX P e with
   |some k=>decide (n=len*k)&&Qn P d e k
   |none=>false
  |_=>false
theorem c96{P:Program}{d n:Nat}{T:TypeId}(h:Qn P d T n=true):∃a,P.underlying T=some a/\(HR a=false->n=1):=by
 cases d with
 |zero=>simp[Qn]at h
 |succ d=>
  unfold Qn at h;split at h
  .exact Cv
  .exact Cv
  .exact Cv
  .rename_i hu;exact⟨_,hu,λh=>G2⟩
  .rename_i hu;exact⟨_,hu,λh=>G2⟩
  .cases h
theorem run_ck{P:Program}(em:Bool):∀(d:Nat) (T:TypeId) (n:Nat) (us:List Value) (m:Nat) (w:World),Qn P d T n=true->us.length=n->(∀u∈us,∃k i,u=.int k i)->(Instr.checkKey em (d+m) T (HI P T us)).run P w=.ok () w:=by
 intro d;induction d with
 |zero=>intro T n us m w h;simp[Qn]at h
 |succ d ih=>
  intro T n us m w h hl hi;rw[show d+1+m=(d+m)+1 from Dv];have flat:∀dd,P.underlying T=some dd->HR dd=false->(match dd with|.bool|.int _|.string=>True|_=>False)->us.length=1->(Instr.checkKey em (d+m+1) T (HI P T us)).run P w=.ok () w:=by
   intro dd hu ha hd h1;match us,h1 with
   | [u],_=>
     obtain⟨k,i,rfl⟩:=hi u Dx;have:HI P T [Value.int k i]=.int k i:=by simp[HI,Io,hu,ha]
     rw[this];cases dd<;>simp at hd<;>simp[Instr.checkKey,K5 hu]
  unfold Qn at h;split at h
  .exact Cw
  .exact Cw
  .exact Cw
  .rename_i fs hu;have hv:HI P T us=.agg us.toArray:=by simp[HI,Io,hu,HR]
   rw[hv,Instr.checkKey];simp only[It,K5 hu];rw[<-Array.forIn_toList];have bw:=Ja.1 h;clear h;generalize fs.toList=L at bw;induction L with
   |nil=>simp
   |cons f L ihL=>
    have hf:=bw f Dx;split at hf;rotate_left
    .cases hf
    rename_i k hk;simp only[Ij]at hf;obtain⟨ho,hc⟩:=hf;simp only[CX,J7]at hk;obtain⟨inf,bq,rfl⟩:=hk;obtain⟨dd,Zx,h1⟩:=c96 hc;have p1:=UB (w:=w) Zx bq us f.offset Dv h1;have p2:=ih f.type inf.size ((us.drop f.offset).take inf.size) m w hc E5 (λu hu=>hi u (List.mem_of_mem_drop (List.mem_of_mem_take hu)));have rest:=ihL (λx hx=>bw x Ef);by_cases hn:f.name= "_"
    .simp only[List.forIn_cons,Ie,hn,ne_eq,not_true_eq_false,if_false];exact rest
    .simp only[List.forIn_cons,Ie,hn,ne_eq,not_false_eq_true,Ke,p1,p2];exact rest
  .rename_i len e hu;have hv:HI P T us=.agg us.toArray:=by simp[HI,Io,hu,HR]
   split at h;rotate_left
   .cases h
   rename_i k hk;simp only[Ij]at h;obtain⟨hn,hc⟩:=h;simp only[CX,J7]at hk;obtain⟨inf,bq,rfl⟩:=hk;obtain⟨dd,Zx,h1⟩:=c96 hc;rw[hv,Instr.checkKey];simp only[It,K5 hu];simp only[Std.Legacy.Range.forIn_eq_forIn_range',Std.Legacy.Range.size,Nat.sub_zero,Nat.add_one_sub_one,Nat.div_one];have bw:∀i∈List.range' 0 len,i<len:=λi hi=>by simp[List.mem_range']at hi;omega
   generalize List.range' 0 len=is at bw;induction is with
   |nil=>simp
   |cons j is ihj=>
    have hj:=bw j Dx;have mz:j*inf.size+inf.size<=len*inf.size:=by rw[<-Mg];exact Ka _ hj
    have p1:=UB (w:=w) Zx bq us (j*inf.size) Dv h1;have p2:=ih e inf.size ((us.drop (j*inf.size)).take inf.size) m w hc E5 (λu hu=>hi u (List.mem_of_mem_drop (List.mem_of_mem_take hu)));simp only[List.forIn_cons,Ie,HY (w:=w) bq,p1,p2];exact ihj (λx hx=>bw x Ef)
  .cases h
def On:List IntKind->List Int->List SV
 |k::a,n::b=>.int k n::On a b
 |_,_=>[]
theorem b02:∀{ks:List IntKind} {q:List Int},q.length=ks.length->(HZ ks q).length=ks.length
 | [],[],_=>rfl
 |_::ks,_::q,h=>by simp[HZ,b02 (ks:=ks) (q:=q) E2]
theorem b0n:∀{ks:List IntKind} {q:List Int},q.length=ks.length->(On ks q).length=ks.length
 | [],[],_=>rfl
 |_::ks,_::q,h=>by simp[On,b0n (ks:=ks) (q:=q) E2]
theorem c08{w:World}{H:Nat->Prop}{μ:Mu}:∀{ks:List IntKind} {q:List Int} (i:Nat) (s:SV) (v:Value),(On ks q)[i]?=some s->(HZ ks q)[i]?=some v->D w H μ s v
 |k::ks,n::q,i,s,v,hs,a=>by
  match i with
  |0=>simp[On]at hs;simp[HZ]at a;subst hs a;exact .int
  |i+1=>exact c08 i s v (by simpa[On]using hs) (by simpa[HZ]using a)
 | [],_,i,s,v,hs,_=>by simp[On]at hs
 |_::_,[],i,s,v,hs,_=>by simp[On]at hs
theorem b2d:∀{ks:List IntKind} {q c:List Int},q.length=ks.length->c.length=ks.length->HZ ks q=HZ ks c->q=c
 | [],[],[],_,_,_=>rfl
 |_::ks,a::q,b::c,h,d,e=>by simp only[HZ,List.cons.injEq,Value.int.injEq,Ni]at e;rw[e.1,b2d (ks:=ks) E2 (by simpa using d) e.2]
theorem b1a:∀{ks:List IntKind} {q:List Int},∀u∈HZ ks q,∃k i,u=.int k i
 |k::ks,n::q,u,a=>by
  simp only[HZ,Jd]at a;rcases a with rfl|a
  .exact Ca
  .exact b1a (ks:=ks) u a
 | [],_,u,a=>by simp[HZ]at a
 |_::_,[],u,a=>by simp[HZ]at a
theorem b39(m:Nat):∀{l:List Value},(∀u∈l,∃k i,u=.int k i)->((l.zip l).all λ(x,y)=>Instr.sameBits m x y)=true
 | [],_=>rfl
 |u::l,h=>by obtain⟨k,i,rfl⟩:=h u Dx;simp only[List.zip_cons_cons,List.all_cons,Jt];refine⟨?_,b39 m (λu a=>h u (by simp[a]))⟩;cases m<;>simp[Instr.sameBits]
theorem b5a {E : Env} (G : EnvOK E) {key : TypeId} {ks : List IntKind} (l : (match E.P.underlying key with | some (.array _ _) | some (.struct _) => true | _ => false) = true)
    (I : ∀ i u : List Int, i.length = ks.length → u.length = ks.length → NO E 8 key (On ks i) (On ks u) = some (decide (i = u))) (J : Qn E.P 8 key ks.length = true) : KLaw E.P key (.ints ks) := by
  have v : ∀ z : List Value, HI E.P key z = .agg z.toArray := λz => by
    unfold HI Io
    cases hu : E.P.underlying key with
    | none => rw [hu] at l; cases l
    | some d => cases d <;> rw [hu] at l <;> first | (cases l; done) | simp [HR]
  refine ⟨λw em q c => ?_, λw q f c s => ?_, λw q c => ?_, λq b c k e => ?_⟩
  · have := run_ck (P := E.P) em 8 key ks.length (HZ ks q) 9992 w J (b02 c) b1a
    rw [v] at this
    exact this
  · rw [run_findKey_eq w l]
    have n : ∀ (f : List MapEntry) (g : Nat), (∀ e ∈ f, ∃ b, LO (.ints ks) b ∧ e.key = kv (.ints ks) b) →
        ∃ r, (Instr.findAsking key (kv (.ints ks) q) f g).run E.P w = .ok r w ∧ ((r = none ∧ ∀ e ∈ f, e.key ≠ kv (.ints ks) q) ∨ ∃ (j : Nat) (e : MapEntry), r = some (g + j, e.val) ∧ f[j]? = some e ∧ e.key = kv (.ints ks) q) := by
      intro f
      induction f with
      | nil => intro g _; exact ⟨none, by simp [Instr.findAsking], .inl ⟨rfl, λe K => by simp at K⟩⟩
      | cons e f L =>
        intro g s
        obtain ⟨b, k, o⟩ := s e Dx
        have C : (Op.equal key (kv (.ints ks) q) e.key).run E.P w = .ok (decide (q = b)) w := by
          have := (b8h (w := w) (H := λ_ => False) (μ := BQ) G 8 key (On ks q) (On ks b) _ (HZ ks q) (HZ ks b) 9992 (I q b c k) ((b02 c).trans (b0n c).symm) ((b02 k).trans (b0n k).symm) c08 c08).2
          rw [v, v] at this
          rw [o]
          exact this
        by_cases A : q = b
        · subst A
          refine ⟨some (g + 0, e.val), ?_, .inr ⟨0, e, rfl, rfl, o⟩⟩
          simp [Instr.findAsking, C]
        · obtain ⟨r, B, hx⟩ := L (g + 1) (λx hx => s x Ef)
          refine ⟨r, by simp [Instr.findAsking, C, A, B], ?_⟩
          rcases hx with ⟨rfl, M⟩ | ⟨j, t, rfl, hj, N⟩
          · refine .inl ⟨rfl, λx hx => ?_⟩
            rcases Jd.1 hx with rfl | hx
            · intro F
              rw [o] at F
              have : (HZ ks b).toArray = (HZ ks q).toArray := by simpa [kv] using F
              exact A (b2d c k (by simpa using this.symm))
            · exact M x hx
          · exact .inr ⟨j + 1, t, by rw [show g + 1 + j = g + (j + 1) from Dv], Em, N⟩
    obtain ⟨r, B, hx⟩ := n f 0 s
    refine ⟨r, B, ?_⟩
    rcases hx with h | ⟨j, e, rfl, hj, o⟩
    · exact .inl h
    · exact .inr ⟨j, e, by rw [Kv], hj, o⟩
  · have : Instr.sameBits 10000 (kv (.ints ks) q) (kv (.ints ks) q) = true := by
      have O : ∀ (m : Nat) (a : Array Value), Instr.sameBits (m + 1) (.agg a) (.agg a) = ((a.size == a.size) && (a.toList.zip a.toList).all λ(x, y) => Instr.sameBits m x y) := λm a => rfl
      rw [kv, show (10000 : Nat) = 9999 + 1 from rfl, O, BEq.rfl, Bool.true_and]
      exact b39 9999 b1a
    rw [Instr.keyThatStays, Iz this, Sem.run_pure]
  · have t : (Value.agg (HZ ks q).toArray) = .agg (HZ ks b).toArray := e
    rw [Value.agg.injEq] at t
    exact b2d c k (by simpa using t)
def stL:List TypeId:=[
 26,
 100,
 39,
 258,
 51,
 71,
 31,
 119,
 89,
 82,
  26]
def stT:TypeId->Bool:=λt=>stL.contains t
def tb(l:List Int)(i:Nat):Int:=l.getD i 0
def Wi(i:Nat):List SV:=[.int .i64 (tb [0,1,0,-1] i),.int .i64 (tb [-1,0,1,0] i),.int .u8 (tb [2,1,2,1] i),.int .i64 (tb [0,1,1,0] i),
 .int .i64 (tb [0,1,0,-1] i),.int .i64 (tb [-1,0,1,0] i),.int .u8 (tb [2,3,0,1] i),.int .i64 (tb [0,0,0,0] i),.int .i64 (tb [0,0,0,0] i),.int .u8 (tb [1,0,3,2] i),.int .i64 (tb [0,0,0,0] i),.int .i64 (tb [0,0,0,0] i),.int .u8 (tb [3,2,1,0] i),
 .int .i64 (tb [0,2,2,0] i),.int .i64 (tb [0,2,2,0] i),.int .i64 (tb [2,2,0,0] i),.int .i64 (tb [0,0,2,2] i)]
def QS(i:Nat):List SV:=[.int .i64 (tb [1,0,-1,0,-1,0,1,0] i),.int .i64 (tb [0,-1,0,1,0,-1,0,1] i),.int .i64 (tb [0,1,0,-1,0,-1,0,1] i),.int .i64 (tb [1,0,-1,0,1,0,-1,0] i)]
def QN:Nat->Option SV
 |0=>some (.rel 4 8 QS 0 0)
 |1=>some (.rel 17 4 Wi 0 0)
 |_=>none
def ktT:TypeId->Option KT
 |97=>some (.ints [.i64,.u8])
 |249=>some (.ints [.i64,.u8])
 |178=>some (.ints [.i64,.i64,.u8])
 |185=>some (.ints [.i64,.i64,.u8,.i64,.i64,.u8])
 |_=>none
abbrev AM:=List SV->Option (Prop×SV)
def VZ(l:List (FuncId×AM)):FuncId->Option AM:=λf=>match l with
 | []=>none
 |(g,k)::r=>if g==f then some k else VZ r f
def tabX(l:List (FuncId×LD)):FuncId->Option LD:=λf=>match l with
 | []=>none
 |(g,k)::r=>if g==f then some k else tabX r f
def tabH(l:List (FuncId×HK)):FuncId->Option HK:=λf=>match l with
 | []=>none
 |(g,k)::r=>if g==f then some k else tabH r f
def f18(l:List (FuncId×AM))(f:FuncId):Bool:=match l with
 | []=>false
 |(g,_)::r=>if g==f then true else f18 r f
noncomputable def EX(l:List (FuncId×AM))(x:List (FuncId×LD))(h:List (FuncId×HK))(fz:Nat->Bool)(c2:Bool)(gr:Nat->List Ghost)(na:Nat)(ax:Nat->Bool)(av:Mu)(fs:List (FuncId×AM)):Env:={P:=Tryz.prog,C:=VZ (fs++l),glob:=QN,ng:=0,st:=stT,X:=tabX x,fz:=fz,na:=na,ax:=ax,av:=av,kt:=ktT,Hc:=tabH h,c2:=c2,gr:=gr,fs:=λf=>f18 fs f}
noncomputable abbrev E0(l:List (FuncId×AM)):Env:=EX l [] [] (λ_=>false) false (λ_=>[]) 0 (λ_=>true) (λ_=>none) []
abbrev PS(f:FuncId)(k:AM):Prop:=c8f Tryz.prog QN f k
abbrev PF(f:FuncId)(k:AM):Prop:=PS f k/\c87 Tryz.prog QN f k
abbrev ES(f:FuncId)(e:LD):Prop:=f5k Tryz.prog QN f e
abbrev HS(f:FuncId)(h:HK):Prop:=d4q Tryz.prog QN f h
theorem b60{l:List (FuncId×AM)}{x:List (FuncId×LD)}{h:List (FuncId×HK)}{fz:Nat->Bool}{c2:Bool}{gr:Nat->List Ghost}{na:Nat}{ax:Nat->Bool}{av:Mu}{fs:List (FuncId×AM)}(d:∀x∈l,PS x.1 x.2)(hx:∀y∈x,ES y.1 y.2)(g:∀y∈h,HS y.1 y.2)(i:∀x∈fs,PF x.1 x.2):GR (EX l x h fz c2 gr na ax av fs):=by
 refine⟨?_,?_,?_⟩
 .intro f k hk;have a:∀(l:List (FuncId×AM)),(∀x∈l,PS x.1 x.2)->VZ l f=some k->PS f k:=by
   intro l;induction l with
   |nil=>intro _ h;cases h
   |cons x l ih=>
    intro h hk;simp only[VZ]at hk;split at hk
    .rename_i e;cases hk;have:=h x Dx;rw[Lr.1 e]at this;exact this
    .exact Cx
  have b:∀(fs:List (FuncId×AM)),(∀x∈fs,PF x.1 x.2)->VZ (fs++l) f=some k->PS f k/\(f18 fs f=true->c87 Tryz.prog QN f k):=by
   intro fs;induction fs with
   |nil=>intro _ h;exact⟨a l d h,λh=>E8⟩
   |cons x fs ih=>
    intro h hk;simp only[M5,VZ]at hk;split at hk
    .rename_i e;cases hk;have:=h x Dx;rw[Lr.1 e]at this;exact⟨this.1,λ_=>this.2⟩
    .rename_i e;obtain⟨j,m⟩:=ih (λy hy=>h y Fb) hk;refine⟨j,λc=>m ?_⟩;simp only[f18]at c;rwa[J3 e]at c
  exact b fs i hk
 .intro f k hk;have a:∀(l:List (FuncId×LD)),(∀x∈l,ES x.1 x.2)->tabX l f=some k->ES f k:=by
   intro l;induction l with
   |nil=>intro _ h;cases h
   |cons x l ih=>
    intro h hk;simp only[tabX]at hk;split at hk
    .rename_i e;cases hk;have:=h x Dx;rw[Lr.1 e]at this;exact this
    .exact Cx
  exact a x hx hk
 .intro f k hk;have a:∀(l:List (FuncId×HK)),(∀x∈l,HS x.1 x.2)->tabH l f=some k->HS f k:=by
   intro l;induction l with
   |nil=>intro _ h;cases h
   |cons x l ih=>
    intro h hk;simp only[tabH]at hk;split at hk
    .rename_i e;cases hk;have:=h x Dx;rw[Lr.1 e]at this;exact this
    .exact Cx
  exact a h g hk
def stOK(P:Program)(T:TypeId):Bool:= !P.stoodInHeld T&& !P.eqGuardType P.depth T&&match P.underlying T with
 |some (.struct fs)=>fs.toList.all λf=>f.name != "_"
 |_=>false
theorem d62{P:Program}{T:TypeId}(h:stOK P T=true):P.stoodInHeld T=false/\P.eqGuardType P.depth T=false/\∃fs,P.underlying T=some (.struct fs)/\∀f∈fs.toList,f.name≠ "_" :=by
 unfold stOK at h;simp only[Iv]at h;obtain⟨⟨h1,h2⟩,h3⟩:=h;refine⟨h1,h2,?_⟩;split at h3
 .rename_i fs mh;refine⟨fs,mh,λf hf=> ?_⟩;have:=Ja.1 h3 f hf;simpa using this
 .cases h3
theorem f9c:(stL.all λT=>stOK Tryz.prog T)=true:=Dw
theorem d5g:∀T,stT T=true->Tryz.prog.stoodInHeld T=false/\Tryz.prog.eqGuardType Tryz.prog.depth T=false/\∃fs,Tryz.prog.underlying T=some (.struct fs)/\∀f∈fs.toList,f.name≠ "_" :=by intro T hT;exact d62 (Ja.1 f9c T (List.contains_iff_mem.1 hT))
noncomputable def EB:Env:={P:=Tryz.prog,C:=λ_=>none,glob:=λ_=>none,ng:=0,st:=stT}
theorem f61:EnvOK EB:=⟨d5g,λT K h=>E8⟩
theorem dec2(a b a' c:Int):(decide (a=a')&&(decide (b=c)&&true))=decide ([a,b]=[a',c]):=by rw[L7];simp
theorem dec3(a b c a' d e:Int):(decide (a=a')&&(decide (b=d)&&(decide (c=e)&&true)))=decide ([a,b,c]=[a',d,e]):=by rw[L7];simp
theorem dec6(a b c d e f a' g h i j k:Int):((decide (a=a')&&(decide (b=g)&&(decide (c=h)&&true)))&&((decide (d=i)&&(decide (e=j)&&(decide (f=k)&&true)))&&true))=decide ([a,b,c,d,e,f]=[a',g,h,i,j,k]):=by rw[L7];simp[and_assoc]
theorem f8w(a b a' c:Int):NO EB 8 100 [.int .i64 a,.int .u8 b] [.int .i64 a',.int .u8 c]=some (decide (a=a')&&(decide (b=c)&&true)):=Dw
theorem c7a:KLaw Tryz.prog 100 (.ints [.i64,.u8]):=b5a f61 Dw (λc d e f=>by
 match c,d,e,f with
 | [a,b],[g,i],_,_=>rw[<-dec2];exact f8w a b g i) Dw
theorem g17(a b c a' d e:Int):NO EB 8 39 [.int .i64 a,.int .i64 b,.int .u8 c] [.int .i64 a',.int .i64 d,.int .u8 e]=some (decide (a=a')&&(decide (b=d)&&(decide (c=e)&&true))):=Dw
theorem f2d:KLaw Tryz.prog 39 (.ints [.i64,.i64,.u8]):=b5a f61 Dw (λd e f g=>by
 match d,e,f,g with
 | [a,b,c],[i,j,k],_,_=>rw[<-dec3];exact g17 a b c i j k) Dw
theorem f1d(a b c d e f a' g i j k l:Int):NO EB 8 193 [.int .i64 a,.int .i64 b,.int .u8 c,.int .i64 d,.int .i64 e,.int .u8 f] [.int .i64 a',.int .i64 g,.int .u8 i,.int .i64 j,.int .i64 k,.int .u8 l]=some ((decide (a=a')&&(decide (b=g)&&(decide (c=i)&&true)))&&((decide (d=j)&&(decide (e=k)&&(decide (f=l)&&true)))&&true)):=Dw
theorem d42:KLaw Tryz.prog 193 (.ints [.i64,.i64,.u8,.i64,.i64,.u8]):=b5a f61 Dw (λg i j k=>by
 match g,i,j,k with
 | [a,b,c,d,e,f],[l,m,n,o,q,r],_,_=>rw[<-dec6];exact f1d a b c d e f l m n o q r) Dw
theorem f6m:∀T K,ktT T=some K->∃a b,Tryz.prog.underlying T=some (.map a b)/\KLaw Tryz.prog a K:=by
 intro T K h;unfold ktT at h;split at h<;>cases h
 .exact⟨_,_,(by kernel_rfl:Tryz.prog.underlying 97=some (.map 100 49)),c7a⟩
 .exact⟨_,_,(by kernel_rfl:Tryz.prog.underlying 249=some (.map 100 4)),c7a⟩
 .exact⟨_,_,(by kernel_rfl:Tryz.prog.underlying 178=some (.map 39 3)),f2d⟩
 .exact⟨_,_,(by kernel_rfl:Tryz.prog.underlying 185=some (.map 193 197)),d42⟩
theorem f7p(l:List (FuncId×AM))(x:List (FuncId×LD))(h:List (FuncId×HK))(fz:Nat->Bool)(c2:Bool)(gr:Nat->List Ghost)(na:Nat)(ax:Nat->Bool)(av:Mu)(fs:List (FuncId×AM)):EnvOK (EX l x h fz c2 gr na ax av fs):=⟨d5g,f6m⟩
theorem f7j:Tryz.prog.follows .mixedOrders=true:=Dw
structure Cs where
 l:List (FuncId×AM):=[]
 x:List (FuncId×LD):=[]
 h:List (FuncId×HK):=[]
 fz:Nat->Bool:=λ_=>false
 c2:Bool:=false
 gr:Nat->List Ghost:=λ_=>[]
 G:GhX:={}
 fs:List (FuncId×AM):=[]
 fsok:∀x∈fs,PF x.1 x.2:=by simp
def Cs.OK(c:Cs):Prop:=(∀x∈c.l,PS x.1 x.2)/\(∀y∈c.x,ES y.1 y.2)/\∀y∈c.h,HS y.1 y.2
theorem Np{f:FuncId}{fn:Func}(c:Cs)(hc:c.OK)(F:Fam)(I:F.ι->Nat->Option Inv)(k:AM)(hk:RQ F k)(bc:∀i,(F.args i).length<=fn.ntmps)
 (hf:Tryz.prog.funcs[f]?=some fn) (hb:fn.body.isSome=true) (hn:(fn.name== "runtime.NumGoroutine")=false) (ff:JN c.c2 (Pc c.gr) (fn.body.getD .skip)=true)
 (H:∀i,F.pre i->EV (EX c.l c.x c.h c.fz c.c2 c.gr 0 (λ_=>true) (λ_=>none) c.fs) fn.ntmps (I i) (fn.body.getD .skip) ⟨NK (EX c.l c.x c.h c.fz c.c2 c.gr 0 (λ_=>true) (λ_=>none) c.fs) fn (F.res i),λ_ _=>False,NK (EX c.l c.x c.h c.fz c.c2 c.gr 0 (λ_=>true) (λ_=>none) c.fs) fn (F.res i)⟩ ⟨MT 0 (F.args i),[]⟩):PS f k:=by
 cases rn:fn.body with
 |none=>rw[rn]at hb;cases hb
 |some code=>
  rw[rn]at ff H;exact verify (EX c.l c.x c.h c.fz c.c2 c.gr 0 (λ_=>true) (λ_=>none) c.fs) rfl rfl rfl (f7p ..) (b60 hc.1 hc.2.1 hc.2.2 c.fsok) f7j hf rn hn F I k hk bc ff H
theorem conF{f:FuncId}{fn:Func}(c:Cs)(hc:c.OK)(F:Fam)(I:F.ι->Nat->Option Inv)(k:AM)(hk:RQ F k)(bc:∀i,(F.args i).length<=fn.ntmps)
 (hf:Tryz.prog.funcs[f]?=some fn) (hb:fn.body.isSome=true) (hn:(fn.name== "runtime.NumGoroutine")=false) (ff:JN c.c2 (Pc c.gr) (fn.body.getD .skip)=true)
 (H:∀i,F.pre i->EV (EX c.l c.x c.h c.fz c.c2 c.gr 0 (λ_=>true) (λ_=>none) c.fs) fn.ntmps (I i) (fn.body.getD .skip) ⟨Sp (EX c.l c.x c.h c.fz c.c2 c.gr 0 (λ_=>true) (λ_=>none) c.fs) fn (F.res i),λ_ _=>False,Sp (EX c.l c.x c.h c.fz c.c2 c.gr 0 (λ_=>true) (λ_=>none) c.fs) fn (F.res i)⟩ ⟨MT 0 (F.args i),[]⟩):PF f k:=by
 cases rn:fn.body with
 |none=>rw[rn]at hb;cases hb
 |some code=>
  rw[rn]at ff H;exact f7a (EX c.l c.x c.h c.fz c.c2 c.gr 0 (λ_=>true) (λ_=>none) c.fs) rfl rfl rfl (f7p ..) (b60 hc.1 hc.2.1 hc.2.2 c.fsok) f7j hf rn hn F I k hk bc ff H
theorem con{f:FuncId}{fn:Func}(l:List (FuncId×AM))(hl:∀x∈l,PS x.1 x.2)(F:Fam)(I:F.ι->Nat->Option Inv)(k:AM)(hk:RQ F k)(bc:∀i,(F.args i).length<=fn.ntmps)
 (hf:Tryz.prog.funcs[f]?=some fn) (hb:fn.body.isSome=true) (hn:(fn.name== "runtime.NumGoroutine")=false) (ff:JN false (Pc λ_=>[]) (fn.body.getD .skip)=true)
 (H:∀i,F.pre i->EV (E0 l) fn.ntmps (I i) (fn.body.getD .skip) ⟨NK (E0 l) fn (F.res i),λ_ _=>False,NK (E0 l) fn (F.res i)⟩ ⟨MT 0 (F.args i),[]⟩):PS f k:=
 Np {l:=l} ⟨hl,Dx,Dx⟩ F I k hk bc hf hb hn ff H
theorem HG{f:FuncId}{fn:Func}(c:Cs)(hc:c.OK)(F:FamH)(I:F.ι->Nat->Option Inv)(h:HK)(hh:LawH F h)(bc:∀i,(F.args i).length<=fn.ntmps)(j5:∀i,(F.own i).length<=(F.own' i).length)
 (hf:Tryz.prog.funcs[f]?=some fn) (hb:fn.body.isSome=true) (hn:(fn.name== "runtime.NumGoroutine")=false) (ff:JN c.c2 (Pc c.gr) (fn.body.getD .skip)=true)
 (H:∀i μ,F.pre i->inG (EX c.l c.x c.h c.fz c.c2 c.gr (F.own i).length (λk=> !F.chg.contains k) μ c.fs) c.G (EV (EX c.l c.x c.h c.fz c.c2 c.gr (F.own i).length (λk=> !F.chg.contains k) μ c.fs) fn.ntmps (I i) (fn.body.getD .skip) ⟨QM (EX c.l c.x c.h c.fz c.c2 c.gr (F.own i).length (λk=> !F.chg.contains k) μ c.fs) c.G (PU (EX c.l c.x c.h c.fz c.c2 c.gr (F.own i).length (λk=> !F.chg.contains k) μ c.fs) fn F i),λ_ _=>False,QM (EX c.l c.x c.h c.fz c.c2 c.gr (F.own i).length (λk=> !F.chg.contains k) μ c.fs) c.G (PU (EX c.l c.x c.h c.fz c.c2 c.gr (F.own i).length (λk=> !F.chg.contains k) μ c.fs) fn F i)⟩) ⟨MT 0 (F.args i),F.own i⟩):HS f h:=by
 cases rn:fn.body with
 |none=>rw[rn]at hb;cases hb
 |some code=>
  rw[rn]at ff H;exact f93 F (λi μ=>EX c.l c.x c.h c.fz c.c2 c.gr (F.own i).length (λk=> !F.chg.contains k) μ c.fs) (λ_ _=>rfl) (λ_ _=>rfl) (λ_ _=>⟨rfl,rfl,rfl⟩) (λ_ _=>f7p ..) (λ_ _=>b60 hc.1 hc.2.1 hc.2.2 c.fsok) f7j hf rn hn I h hh bc j5 c.G (λ_ _=>ff) H
theorem RQ.of_eq{F:Fam}{k:AM}(h:∀a b s,k a=some (b,s)->b->∃i,BM a (F.args i)/\F.pre i/\s=F.res i):RQ F k:=h
def Lf(p:Prop):Prop:=Classical.choose (p:=λq:Prop=>q=p) ⟨p,rfl⟩
theorem Le(p:Prop):Lf p=p:=Classical.choose_spec (p:=λq:Prop=>q=p) ⟨p,rfl⟩
theorem Lm{p:Prop}(h:p):Lf p:=Eq.mpr (Le p) h
structure Wk (q p:Prop):Prop where
 out:q->p
theorem Wan{a b A B:Prop}(f:Wk a A)(g:Wk b B):Wk (a/\b) (A/\B):=⟨λh=>⟨f.1 h.1,g.1 h.2⟩⟩
theorem Was{a x B:Prop}(hx:x)(f:Wk a B):Wk a (KR x/\B):=⟨λh=>⟨KR.mk hx,f.1 h⟩⟩
theorem Wbr{c:Bool}{A B a b:Prop}(f:c=true->Wk a A)(g:c=false->Wk b B):Wk ((c=true->a)/\(c=false->b)) (Br c A B):=⟨λk=>Br.mk (λh=>(f h).1 (k.1 h)) (λh=>(g h).1 (k.2 h))⟩
theorem Wbt{c:Bool}{A B a:Prop}(h:c=true)(f:Wk a A):Wk a (Br c A B):=⟨λk=>Br.litT h (f.1 k)⟩
theorem Wbf{c:Bool}{A B a:Prop}(h:c=false)(f:Wk a B):Wk a (Br c A B):=⟨λk=>Br.litF h (f.1 k)⟩
theorem Wtr:Wk True True:=⟨λh=>h⟩
theorem Wro{n:Nat}{f b:Nat->List SV}{a:Prop}(k:Wk a (∀i,i<n->f i=b i)):Wk a (∀i,i<n->FU (f i) (b i)):=⟨λh=>RZ (k.1 h)⟩
structure Hu (p:Prop):Prop where
 out:p
theorem Iu{p a:Prop}(f:p->a):Hu p->a:=λh=>f h.1
theorem Wub{p q a:Prop}(f:p->Wk a q):Wk (Hu p->a) (Ub p q):=⟨λk=>Ub.mk λh=>(f h).1 (k ⟨h⟩)⟩
theorem Wal{p a:SlH->Prop}(f:∀v,Wk (a v) (p v)):Wk (∀v,a v) (QU p):=⟨λk=>QU.mk λv=>(f v).1 (k v)⟩
theorem Wla{x y:Option Entry}(h:x=y):Wk True (Qb x y):=⟨λ_=>Qb.mk h⟩
def Wnp(h:SlH->Prop):SlH->Prop:=h
theorem Wlf{p:Prop}:Wk (Lf p) p:=⟨Eq.mp (Le p)⟩
theorem Wsa{q p:Prop}(h:Wk q (KR p)):Wk q (KR p):=h
theorem Wse{q:Prop}{α:Type}{a b:α}(h:Wk q (a=b)):Wk q (a=b):=h
theorem Wsf{q:Prop}(h:Wk q False):Wk q False:=h
theorem Wsl{q:Prop}{a b:Option Entry}(h:Wk q (Qb a b)):Wk q (Qb a b):=h
theorem Wsk{q:Prop}{k:IntKind}{n:Int}(h:Wk q (AE k n)):Wk q (AE k n):=h
universe u
theorem Wsx{q:Prop}{α:Sort u}{p:α->Prop}(h:Wk q (∃x,p x)):Wk q (∃x,p x):=h
theorem Wsp{q:Prop}{α:Sort u}{p:α->Prop}(h:Wk q (∀x,p x)):Wk q (∀x,p x):=h
theorem WlA{a x:Prop}(f:Wk a x):Wk a (KR x):=⟨λh=>KR.mk (f.1 h)⟩
theorem VD{p:Prop}(h:p):Wk True p:=⟨λ_=>h⟩
theorem AB{p:Prop}(q:Prop)(a:q)(h:Wk q p:=by
 repeat'(first
  |(with_reducible refine' Was ?hx ?_
    case hx=>first|exact trivial|exact λ_=>trivial)
  |with_reducible refine' Wan ?_ ?_
  |(with_reducible refine' Wbt ?hx ?_
    case hx=>exact(Eq.refl true))
  |(with_reducible refine' Wbf ?hx ?_
    case hx=>exact(Eq.refl false))
  |with_reducible refine' Wbr (λh=> ?_) (λh=> ?_)
  |with_reducible exact Wtr
  |with_reducible refine' Wro ?_
  |with_reducible refine' Wub (λhu=> ?_)
  |with_reducible refine' Wal (λv=> ?_)
  |(with_reducible refine' Wla ?hx
    case hx=>exact rfl)
  |(fail_if_success (with_reducible first|refine' Wsa ?_|refine' Wse ?_|refine' Wsf ?_|refine' Wsx ?_|refine' Wsp ?_|refine' Wsk ?_|refine' Wsl ?_|refine' Wnp ?_)
    conv=>arg 2;whnf))
 all_goals(try with_reducible refine' WlA ?_)
 all_goals(try first|exact VD trivial|exact VD (λ_=>trivial))
 all_goals(try((conv=>arg 2;dsimp only);try with_reducible first|exact Wtr|exact VD rfl))
 all_goals(try exact Wlf)):p:=h.1 a
theorem AK{p:Prop}(q:Prop)(a:q)(h:Wk q p:=by
 repeat'(first
  |(with_reducible refine' Was ?hx ?_
    case hx=>first|exact trivial|exact λ_=>trivial)
  |with_reducible refine' Wan ?_ ?_
  |(with_reducible refine' Wbt ?hx ?_
    case hx=>exact(Eq.refl true))
  |(with_reducible refine' Wbf ?hx ?_
    case hx=>exact(Eq.refl false))
  |with_reducible refine' Wbr (λh=> ?_) (λh=> ?_)
  |with_reducible exact Wtr
  |with_reducible refine' Wub (λhu=> ?_)
  |with_reducible refine' Wal (λv=> ?_)
  |(with_reducible refine' Wla ?hx
    case hx=>exact rfl)
  |(fail_if_success (with_reducible first|refine' Wsa ?_|refine' Wse ?_|refine' Wsf ?_|refine' Wsx ?_|refine' Wsp ?_|refine' Wsk ?_|refine' Wsl ?_|refine' Wnp ?_)
    conv=>arg 2;whnf))
 all_goals(try with_reducible refine' WlA ?_)
 all_goals(try first|exact VD trivial|exact VD (λ_=>trivial))
 all_goals(try((conv=>arg 2;dsimp only);try with_reducible first|exact Wtr|exact VD rfl))
 all_goals(try exact Wlf)):p:=h.1 a
theorem X0b{p q a:Prop}(f:p->Wk a q):Wk (p->a) (Ub p q):=⟨λk=>Ub.mk λh=>(f h).1 (k h)⟩
theorem X0{p:Prop}(q:Prop)(a:q)(h:Wk q p:=by
 repeat'(first
  |(with_reducible refine' Was ?hx ?_
    case hx=>first|exact trivial|exact λ_=>trivial)
  |with_reducible refine' Wan ?_ ?_
  |(with_reducible refine' Wbt ?hx ?_
    case hx=>exact(Eq.refl true))
  |(with_reducible refine' Wbf ?hx ?_
    case hx=>exact(Eq.refl false))
  |with_reducible refine' Wbr (λh=> ?_) (λh=> ?_)
  |with_reducible exact Wtr
  |with_reducible refine' Wro ?_
  |with_reducible refine' X0b (λh=> ?_)
  |with_reducible refine' Wal (λv=> ?_)
  |(with_reducible refine' Wla ?hx
    case hx=>exact rfl)
  |(fail_if_success (with_reducible first|refine' Wsa ?_|refine' Wse ?_|refine' Wsf ?_|refine' Wsx ?_|refine' Wsp ?_|refine' Wsk ?_|refine' Wsl ?_|refine' Wnp ?_)
    conv=>arg 2;whnf))
 all_goals(try with_reducible refine' WlA ?_)
 all_goals(try first|exact VD trivial|exact VD (λ_=>trivial))
 all_goals(try((conv=>arg 2;dsimp only);try with_reducible first|exact Wtr|exact VD rfl))
 all_goals(try exact Wlf)):p:=h.1 a
theorem X0a{p:Prop}(q:Prop)(a:q)(h:Wk q p:=by
 repeat'(first
  |(with_reducible refine' Was ?hx ?_
    case hx=>first|exact trivial|exact λ_=>trivial)
  |with_reducible refine' Wan ?_ ?_
  |(with_reducible refine' Wbt ?hx ?_
    case hx=>exact(Eq.refl true))
  |(with_reducible refine' Wbf ?hx ?_
    case hx=>exact(Eq.refl false))
  |with_reducible refine' Wbr (λh=> ?_) (λh=> ?_)
  |with_reducible exact Wtr
  |with_reducible refine' X0b (λh=> ?_)
  |with_reducible refine' Wal (λv=> ?_)
  |(with_reducible refine' Wla ?hx
    case hx=>exact rfl)
  |(fail_if_success (with_reducible first|refine' Wsa ?_|refine' Wse ?_|refine' Wsf ?_|refine' Wsx ?_|refine' Wsp ?_|refine' Wsk ?_|refine' Wsl ?_|refine' Wnp ?_)
    conv=>arg 2;whnf))
 all_goals(try with_reducible refine' WlA ?_)
 all_goals(try first|exact VD trivial|exact VD (λ_=>trivial))
 all_goals(try((conv=>arg 2;dsimp only);try with_reducible first|exact Wtr|exact VD rfl))
 all_goals(try exact Wlf)):p:=h.1 a
theorem X0c{p:Prop}(h:p:=by
 refine' X0 _ ?_;(repeat' first|constructor|intro h)<;>refine' Lm ?_
 all_goals first|exact A6|skip):p:=h
theorem X0d{p:Prop}(h:p:=by
 refine' X0 _ ?_;(repeat' first|constructor|intro h)<;>refine' Lm ?_
 all_goals first|exact Ay|skip):p:=h
theorem X0e{p:Prop}(h:p:=by
 refine' X0 _ ?_;(repeat' first|constructor|intro h)<;>refine' Lm ?_
 all_goals(first|rfl|exact A7)):p:=h
theorem X0f{p:Prop}(h:p:=by
 refine' X0 _ ?_;(repeat' first|constructor|intro h)<;>refine' Lm ?_
 all_goals first|exact Ay):p:=h
theorem X0g{p:Prop}(h:p:=by
 refine' X0a _ ?_;(repeat' first|constructor|intro h)<;>refine' Lm ?_
 all_goals first|exact B5|skip):p:=h
theorem X0h{p:Prop}(h:p:=by
 refine' X0 _ ?_;(repeat' first|constructor|intro h)<;>refine' Lm ?_
 all_goals(try simp only[HT,CU]at*)
 all_goals(first
  |exact Bb
  |skip)):p:=h
theorem X1{p:Prop}(h:p:=by
 refine' X0 _ ?_;(repeat' first|constructor|intro h)<;>refine' Lm ?_
 all_goals(first
  |exact Ad
  |exact Bc
  |omega
  |skip)):p:=h
theorem X1a{p:Prop}(h:p:=by
 refine' X0 _ ?_;(repeat' first|constructor|intro h)<;>refine' Lm ?_
 all_goals first|exact A2|exact Ah|skip):p:=h
theorem X1b{p:Prop}(h:p:=by
 refine' X0 _ ?_;(repeat' first|constructor|intro h)<;>refine' Lm ?_
 all_goals first|exact A2|skip):p:=h
theorem X1c{p:Prop}(h:p:=by
 refine' X0 _ ?_;(repeat' first|constructor|intro h)<;>refine' Lm ?_
 all_goals first|exact Bv|skip):p:=h
theorem X1d{p:Prop}(h:p:=by
 refine' X0 _ ?_;(repeat' first|constructor|intro h)<;>refine' Lm ?_
 all_goals first|exact Ar|skip):p:=h
theorem X1e{p:Prop}(h:p:=by
 refine' X0 _ ?_;(repeat' first|constructor|intro h)<;>refine' Lm ?_
 all_goals first|exact Bw|skip):p:=h
theorem X1f{p:Prop}(h:p:=by
 refine' X0 _ ?_;(repeat' first|constructor|intro h)<;>refine' Lm ?_
 all_goals first|exact Ad|exact(Mb _).symm|skip):p:=h
theorem X1g{p:Prop}(h:p:=by
 refine' X0 _ ?_;(repeat' first|constructor|intro h)<;>refine' Lm ?_
 all_goals(first
  |exact g
  |rfl
  |skip)):p:=h
theorem X1h{p:Prop}(h:p:=by
 refine' X0a _ ?_;(repeat' first|constructor|intro h)<;>refine' Lm ?_
 all_goals first|exact Aq|skip):p:=h
theorem X2{p:Prop}(h:p:=by
 refine' X0a _ ?_;(repeat' first|constructor|intro h)<;>refine' Lm ?_
 all_goals(try simp only[q,u,v,Jk])
 all_goals first|rfl|omega|exact e|exact A4|skip):p:=h
theorem X2a{p:Prop}(h:p:=by
 refine' X0a _ ?_;(repeat' first|constructor|intro h)<;>refine' Lm ?_
 all_goals first
  |exact Aq
  |skip):p:=h
theorem X2b{p:Prop}(h:p:=by
 refine' X0a _ ?_;(repeat' first|constructor|intro h)<;>refine' Lm ?_
 all_goals(try simp only[Jk,DI])
 all_goals first|exact Ab|skip):p:=h
theorem X2c{p:Prop}(h:p:=by
 refine' X0a _ ?_;(repeat' first|constructor|intro h)<;>refine' Lm ?_
 all_goals(try simp only[Ia,Ib,DI,O]at*)
 all_goals(try first
  |exact A5
  |(intro _ _;left;rw[<-kE]))):p:=h
theorem X2d{p:Prop}(h:p:=by
 refine' X0a _ ?_;(repeat' first|constructor|intro h)<;>refine' Lm ?_
 all_goals(try simp only[Jk])
 all_goals first|exact Bu|skip):p:=h
theorem X2e{p:Prop}(h:p:=by
 refine' X0a _ ?_;(repeat' first|constructor|intro h)<;>refine' Lm ?_
 all_goals(try simp only[Jk,t,o,k1.1])
 all_goals first|exact Bu|skip):p:=h
theorem X2f{p:Prop}(h:p:=by
 refine' X0a _ ?_;(repeat' first|constructor|intro h)<;>refine' Lm ?_
 all_goals(try simp only[Jk,t,w,o,k1.1])
 all_goals first|exact Bu|skip):p:=h
theorem X2g{p:Prop}(h:p:=by
 refine' X0 _ ?_;(repeat' first|constructor|intro h)<;>refine' Lm ?_
 all_goals first|exact A6|exact A4|skip):p:=h
theorem X2h{p:Prop}(h:p:=by
 refine' X0 _ ?_;(repeat' first|constructor|intro h)<;>refine' Lm ?_
 all_goals first|exact Aj|skip):p:=h
theorem X3{p:Prop}(h:p:=by
 refine' X0a _ ?_;(repeat' first|constructor|intro h)<;>refine' Lm ?_
 all_goals first
  |exact Aq
  |exact Ai
  |skip):p:=h
section
open Go.RowKit
theorem c4j{P:Program}{w:World}{n:String}{g:Nat}{cs:Array Value}(a:P.globalNamed n=some g)(h:w.var? P n=some cs):g<w.heap.size:=by
 simp only[World.var?,a,Lq]at h;split at h
 .rename_i b;exact(K9.1 b).1
 .cases h
theorem d50:laidOutB Tryz.prog=true:=Dw
theorem b5v{W:World}{A:Nat->Prop}(j:∀b,¬A b){n:String}{g g0:Nat}{t:TypeId}{cs:Array Value}{fuel:Nat}{d:DataW Unit}{p:List MemPlace}{sz m:Nat}{f:Nat->List SV}
 (h:Tryz.prog.globalNamed n=some g) (l:(Tryz.prog.globals[g]?).map (·.type)=some t) (i:W.var? Tryz.prog n=some cs) (o:DataW.trod (λ_=>()) Tryz.prog W 0 (λ_=>true) false fuel t cs.toList=some (d,p))
 (q:Tryz.prog.globalNamed n=some g0) (a:(Tryz.prog.globals[g0]?).map (λc=>d6f Tryz.prog 10 c.type&&isVar Tryz.prog c.type)=some true) (r:Vj d=true) (s:0<m) (u:d1j sz m f (WL d)=true):
 (SV.rel sz m f 0 0).pure=true/\D W A BQ (.rel sz m f 0 0) (.pointer (some ⟨g0,0,none⟩)):=by
 obtain rfl:=K6 (q.symm.trans h);obtain⟨c,v,rfl⟩:=J7.1 l;rw[v]at a;simp only[Kb,Ju,Jt]at a;have e:=d1d d50 fuel c.type cs.toList (d,p) 10 a.1 a.2 o r;refine c29 (cs:=cs.toList) s (j g0) (c4j h i) (λk=> ?_) (by rw[e];exact u);rw[World.var?_cell h i k];simp
open Classical in
noncomputable def Tr(F:Fam):List SV->Option (Prop×SV):=λzs=>if∃i,F.pre i/\zs=F.args i then some (True,.bool true)else none
theorem f43{f:FuncId}{F:Fam}(this:PS f (Tr F))(i:F.ι)(c:F.pre i)
 {w:World} {vals:List Value} (d:∀g t,QN g=some t->t.pure=true/\D w (λ_=>False) BQ t (.pointer (some ⟨g,0,none⟩))) (j:DL w (λ_=>False) BQ (F.args i) vals):
 Calls Tryz.prog f vals.toArray w λe a=>e=.returned (.bool true)/\Fr w.heap.size (λ_=>False) w a:=by
 refine(this.2 (λ_=>False) w (F.args i) vals True (.bool true) (λb h=>h.elim) d j ?_ trivial).mono ?_
 .unfold Tr;rw[Iz ⟨i,c,rfl⟩]
 .rintro e a ⟨v,rfl,k,l⟩;cases k;exact⟨rfl,l⟩
theorem top{f:FuncId}{fn:Func}(c:Cs)(hc:c.OK)(F:Fam)(I:F.ι->Nat->Option Inv)(gc:∀i,F.res i=.bool true)(bi:∀i,BM (F.args i) (F.args i))(bc:∀i,(F.args i).length<=fn.ntmps)
 (hf:Tryz.prog.funcs[f]?=some fn) (hb:fn.body.isSome=true) (hn:(fn.name== "runtime.NumGoroutine")=false) (ff:JN c.c2 (Pc c.gr) (fn.body.getD .skip)=true)
 (H:∀i,F.pre i->EV (EX c.l c.x c.h c.fz c.c2 c.gr 0 (λ_=>true) (λ_=>none) c.fs) fn.ntmps (I i) (fn.body.getD .skip) ⟨NK (EX c.l c.x c.h c.fz c.c2 c.gr 0 (λ_=>true) (λ_=>none) c.fs) fn (F.res i),λ_ _=>False,NK (EX c.l c.x c.h c.fz c.c2 c.gr 0 (λ_=>true) (λ_=>none) c.fs) fn (F.res i)⟩ ⟨MT 0 (F.args i),[]⟩) (i:F.ι) (hp:F.pre i)
 {w:World} {vals:List Value} (hg:∀g t,QN g=some t->t.pure=true/\D w (λ_=>False) BQ t (.pointer (some ⟨g,0,none⟩))) (hD:DL w (λ_=>False) BQ (F.args i) vals):
 Calls Tryz.prog f vals.toArray w λe w'=>e=.returned (.bool true)/\Fr w.heap.size (λ_=>False) w w':=by
 have:=Np c hc F I (Tr F) (λzs p s hk hp=>by
  unfold Tr at hk;split at hk
  .rename_i Zz;obtain⟨i,hi,rfl⟩:=Zz;cases hk;exact⟨i,bi i,hi,(gc i).symm⟩
  .cases hk) bc hf hb hn ff H
 exact f43 this i hp hg hD
theorem c3n{w w':World}(h:Fr w.heap.size (λ_=>False) w w'):Below w.heap.size w w':=⟨h.os,h.tape,h.output,h.size,λk a=>h.block k a (λh=>h)⟩
theorem b37{H:Type}{enc:TypeId×Value->H}{P:Program}(e:laidOutB P=true){W f:World}(g:Below W.heap.size W f):∀{ts:List TypeId} {vs:List Value} {a:List (DataW H)} {ps:List MemPlace},
 (ts.all λt=>P.readableRec t&&decide (t<P.types.size))=true->DataW.TrodAll enc P W 0 (λ_=>true) true ts vs a ps->(∀x∈ps,x.block<W.heap.size)->DataW.TrodAll enc P f 0 (λb=>decide (b<W.heap.size)) true ts vs a ps
 | [],vs,a,ps,_,h,_=>by obtain⟨rfl,rfl,rfl⟩:=Go.ChangeShapes.trodAll_nil h;rfl
 |t::ts,vs,a,ps,c,h,i=>by obtain⟨v,vs',d,ds',p,q,rfl,rfl,rfl,j,k⟩:=Go.ChangeShapes.trodAll_cons h;simp only[List.all_cons,Ij]at c;exact⟨p,q,Below.trod e c.1.1 c.1.2 j g (λx hx=>i x Ef),b37 e g (by simpa using c.2) k (λx hx=>i x Ef),rfl⟩
theorem f16{H:Type}{enc:TypeId×Value->H}{P:Program}(l:laidOutB P=true){a:Func}{s:ChangeSpec}{tb:TypeId}{W f:World}{args:Array Value}{b g:List (DataW H)}{before:List MemPlace}(i:s.vars=[])(m:a.resultTypes= #[tb])(c:P.underlying tb=some .bool)
 (d:s.fn H (b++g)={results:=[.lit (.bool true)],args:=b}) (n:(a.params.toList.all λt=>P.readableRec t&&decide (t<P.types.size))=true) (e:DataW.Whole enc P a.params.toList s.vars false W args.toList b g before) (j:Below W.heap.size W f):
 s.post enc P a false true false false W args (.bool true) f:=by
 have o:=e;obtain⟨p,q,r,k,rfl,hfz,nj⟩:=o;rw[i]at k;obtain⟨rfl,rfl⟩:=Go.ChangeShapes.trodVars_none k;refine⟨b,[],p++[],[],p,[],e,?_,?_,?_,j.frame _,λh=>E8⟩
 .rw[d,m];exact Go.ChangeShapes.trodAll_mk1 (shut_bool c true)
 .rw[d];refine b37 l j n r (λx hx=> ?_);have:=e.lt x Ef;simpa using this
 .rw[d,i];rfl
end
end Go.Proofs.YtaihldljnlgnoaaGreatDoor.V
