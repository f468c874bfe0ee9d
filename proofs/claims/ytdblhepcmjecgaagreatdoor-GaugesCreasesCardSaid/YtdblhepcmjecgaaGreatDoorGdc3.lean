/-
  Parts of the proof: M2 S1 S2 R2. Conditions: none.
-/
import Derived.Test.YtdblhepcmjecgaaGreatDoorGdc2
import Derived.WideKeyRuns
import Derived.Test.YtdblhepcmjecgaaGreatDoorRows
import Derived.Test.YtdblhepcmjecgaaGreatDoorChecked
set_option maxRecDepth 100000
set_option maxHeartbeats 40000000
namespace Go.Proofs.YtdblhepcmjecgaaGreatDoor.V
open Go
def g73(P:Program):Nat→TypeId→Nat→Bool
 |0,_,_=>false
 |d+1,T,n=>match P.underlying T with
  |some .bool|some (.int _)|some .string=>decide (n=1)&&decide (b10 P T=some 1)
  |some (.struct fs)=>fs.toList.all fun f=>match b10 P f.type with
   |some k=>decide (f.offset+k≤n)&&g73 P d f.type k
   |none=>false
  |some (.array len e)=>match b10 P e with
   |some k=>decide (n=len*k)&&g73 P d e k
   |none=>false
  |_=>false
theorem f0m{P:Program}{d n:Nat}{T:TypeId}(h:g73 P d T n=true):∃dd,P.underlying T=some dd∧(c4v dd=false→n=1):=by
 cases d with
 |zero=>simp[g73]at h
 |succ d=>
  unfold g73 at h
  split at h
  ·exact Cp
  ·exact Cp
  ·exact Cp
  ·rename_i hu;exact⟨_,hu,fun h=>Fz⟩
  ·rename_i hu;exact⟨_,hu,fun h=>Fz⟩
  ·cases h
theorem run_ck{P:Program}(em:Bool):∀(d:Nat) (T:TypeId) (n:Nat) (us:List Value) (m:Nat) (w:World),g73 P d T n=true→us.length=n→(∀u∈us,∃k i,u=.int k i)→(Instr.checkKey em (d+m) T (b4u P T us)).run P w=.ok () w:=by
 intro d
 induction d with
 |zero=>intro T n us m w h;simp[g73]at h
 |succ d ih=>
  intro T n us m w h hl hi
  rw[show d+1+m=(d+m)+1 from Dt]
  have flat:∀dd,P.underlying T=some dd→c4v dd=false→(match dd with|.bool|.int _|.string=>True|_=>False)→us.length=1→(Instr.checkKey em (d+m+1) T (b4u P T us)).run P w=.ok () w:=by
   intro dd hu ha hd h1
   match us,h1 with
   | [u],_=>
     obtain⟨k,i,rfl⟩:=hi u Dv
     have:b4u P T [Value.int k i]=.int k i:=by simp[b4u,b2n,hu,ha]
     rw[this]
     cases dd<;>simp at hd<;>simp[Instr.checkKey,Jm hu]
  unfold g73 at h
  split at h
  ·exact Cq
  ·exact Cq
  ·exact Cq
  ·rename_i fs hu
   have hv:b4u P T us=.agg us.toArray:=by simp[b4u,b2n,hu,c4v]
   rw[hv,Instr.checkKey]
   simp only[Ir,Jm hu]
   rw[←Array.forIn_toList]
   have bt:=J4.1 h
   clear h
   generalize fs.toList=L at bt
   induction L with
   |nil=>simp
   |cons f L ihL=>
    have hf:=bt f Dv
    split at hf
    rotate_left
    ·cases hf
    rename_i k hk
    simp only[Ih]at hf
    obtain⟨ho,hc⟩:=hf
    simp only[b10,J1]at hk
    obtain⟨inf,bn,rfl⟩:=hk
    obtain⟨dd,N3,h1⟩:=f0m hc
    have p1:=b7h (w:=w) N3 bn us f.offset Dt h1
    have p2:=ih f.type inf.size ((us.drop f.offset).take inf.size) m w hc E5 (fun u hu=>hi u (Mc (Lu hu)))
    have rest:=ihL (fun x hx=>bt x Ef)
    by_cases hn:f.name= "_"
    ·simp only[List.forIn_cons,Ic,hn,ne_eq,not_true_eq_false,if_false]
     exact rest
    ·simp only[List.forIn_cons,Ic,hn,ne_eq,not_false_eq_true,K5,p1,p2]
     exact rest
  ·rename_i len e hu
   have hv:b4u P T us=.agg us.toArray:=by simp[b4u,b2n,hu,c4v]
   split at h
   rotate_left
   ·cases h
   rename_i k hk
   simp only[Ih]at h
   obtain⟨hn,hc⟩:=h
   simp only[b10,J1]at hk
   obtain⟨inf,bn,rfl⟩:=hk
   obtain⟨dd,N3,h1⟩:=f0m hc
   rw[hv,Instr.checkKey]
   simp only[Ir,Jm hu]
   simp only[Std.Legacy.Range.forIn_eq_forIn_range',Std.Legacy.Range.size,Nat.sub_zero,Nat.add_one_sub_one,Nat.div_one]
   have bt:∀i∈List.range' 0 len,i<len:=fun i hi=>by simp[List.mem_range']at hi;omega
   generalize List.range' 0 len=is at bt
   induction is with
   |nil=>simp
   |cons j is ihj=>
    have hj:=bt j Dv
    have mj:j*inf.size+inf.size≤len*inf.size:=by rw[←Lt];exact Jt _ hj
    have p1:=b7h (w:=w) N3 bn us (j*inf.size) Dt h1
    have p2:=ih e inf.size ((us.drop (j*inf.size)).take inf.size) m w hc E5 (fun u hu=>hi u (Mc (Lu hu)))
    simp only[List.forIn_cons,Ic,b0h (w:=w) bn,p1,p2]
    exact ihj (fun x hx=>bt x Ef)
  ·cases h
def b7n:List IntKind→List Int→List SV
 |k::ks,n::ns=>.int k n::b7n ks ns
 |_,_=>[]
theorem b4b:∀{ks:List IntKind} {q:List Int},q.length=ks.length→(b13 ks q).length=ks.length
 | [],[],_=>rfl
 |_::ks,_::q,h=>by simp[b13,b4b (ks:=ks) (q:=q) E1]
theorem b7c:∀{ks:List IntKind} {q:List Int},q.length=ks.length→(b7n ks q).length=ks.length
 | [],[],_=>rfl
 |_::ks,_::q,h=>by simp[b7n,b7c (ks:=ks) (q:=q) E1]
theorem d17{w:World}{H:Nat→Prop}{μ:Mu}:∀{ks:List IntKind} {q:List Int} (i:Nat) (s:SV) (v:Value),(b7n ks q)[i]?=some s→(b13 ks q)[i]?=some v→D w H μ s v
 |k::ks,n::q,i,s,v,hs,hv=>by
  match i with
  |0=>simp[b7n]at hs;simp[b13]at hv;subst hs hv;exact .int
  |i+1=>exact d17 i s v (by simpa[b7n]using hs) (by simpa[b13]using hv)
 | [],_,i,s,v,hs,_=>by simp[b7n]at hs
 |_::_,[],i,s,v,hs,_=>by simp[b7n]at hs
theorem c0f:∀{ks:List IntKind} {q q':List Int},q.length=ks.length→q'.length=ks.length→b13 ks q=b13 ks q'→q=q'
 | [],[],[],_,_,_=>rfl
 |_::ks,a::q,b::q',h,h',e=>by
  simp only[b13,List.cons.injEq,Value.int.injEq,Mp]at e
  rw[e.1,c0f (ks:=ks) E1 (by simpa using h') e.2]
theorem b8e:∀{ks:List IntKind} {q:List Int},∀u∈b13 ks q,∃k i,u=.int k i
 |k::ks,n::q,u,hu=>by
  simp only[b13,J8]at hu
  rcases hu with rfl|hu
  ·exact C4
  ·exact b8e (ks:=ks) u hu
 | [],_,u,hu=>by simp[b13]at hu
 |_::_,[],u,hu=>by simp[b13]at hu
theorem c1t(m:Nat):∀{l:List Value},(∀u∈l,∃k i,u=.int k i)→((l.zip l).all fun(x,y)=>Instr.sameBits m x y)=true
 | [],_=>rfl
 |u::l,h=>by
  obtain⟨k,i,rfl⟩:=h u Dv
  simp only[List.zip_cons_cons,List.all_cons,Km]
  refine⟨?_,c1t m (fun u hu=>h u (by simp[hu]))⟩
  cases m<;>simp[Instr.sameBits]
theorem c7c {E : Env} (hE : EnvOK E) {key : TypeId} {ks : List IntKind} (js : (match E.P.underlying key with | some (.array _ _) | some (.struct _) => true | _ => false) = true)
    (je : ∀ asq bs : List Int, asq.length = ks.length → bs.length = ks.length → d96 E 8 key (b7n ks asq) (b7n ks bs) = some (decide (asq = bs))) (hck : g73 E.P 8 key ks.length = true) : KLaw E.P key (.ints ks) := by
  have cg : ∀ us : List Value, b4u E.P key us = .agg us.toArray := fun us => by
    unfold b4u b2n
    cases hu : E.P.underlying key with
    | none => rw [hu] at js; cases js
    | some d => cases d <;> rw [hu] at js <;> first | (cases js; done) | simp [c4v]
  refine ⟨fun w em q hq => ?_, fun w q es hq qm => ?_, fun w q hq => ?_, fun q q' hq dc e => ?_⟩
  · have := run_ck (P := E.P) em 8 key ks.length (b13 ks q) 9992 w hck (b4b hq) b8e
    rw [cg] at this
    exact this
  · rw [run_findKey_eq w js]
    have key' : ∀ (es : List MapEntry) (i0 : Nat), (∀ e ∈ es, ∃ q', okq (.ints ks) q' ∧ e.key = kv (.ints ks) q') →
        ∃ r, (Instr.findAsking key (kv (.ints ks) q) es i0).run E.P w = .ok r w ∧ ((r = none ∧ ∀ e ∈ es, e.key ≠ kv (.ints ks) q) ∨ ∃ (j : Nat) (e : MapEntry), r = some (i0 + j, e.val) ∧ es[j]? = some e ∧ e.key = kv (.ints ks) q) := by
      intro es
      induction es with
      | nil => intro i0 _; exact ⟨none, by simp [Instr.findAsking], .inl ⟨rfl, fun e he => by simp at he⟩⟩
      | cons e es ih =>
        intro i0 qm
        obtain ⟨q', dc, hk⟩ := qm e Dv
        have bi : (Op.equal key (kv (.ints ks) q) e.key).run E.P w = .ok (decide (q = q')) w := by
          have := (c91 (w := w) (H := fun _ => False) (μ := b0a) hE 8 key (b7n ks q) (b7n ks q') _ (b13 ks q) (b13 ks q') 9992 (je q q' hq dc) ((b4b hq).trans (b7c hq).symm) ((b4b dc).trans (b7c dc).symm) d17 d17).2
          rw [cg, cg] at this
          rw [hk]
          exact this
        by_cases e1 : q = q'
        · subst e1
          refine ⟨some (i0 + 0, e.val), ?_, .inr ⟨0, e, rfl, rfl, hk⟩⟩
          simp [Instr.findAsking, bi]
        · obtain ⟨r, hr, hx⟩ := ih (i0 + 1) (fun x hx => qm x Ef)
          refine ⟨r, by simp [Instr.findAsking, bi, e1, hr], ?_⟩
          rcases hx with ⟨rfl, hn⟩ | ⟨j, e', rfl, hj, pf⟩
          · refine .inl ⟨rfl, fun x hx => ?_⟩
            rcases J8.1 hx with rfl | hx
            · intro h0
              rw [hk] at h0
              have : (b13 ks q').toArray = (b13 ks q).toArray := by simpa [kv] using h0
              exact e1 (c0f hq dc (by simpa using this.symm))
            · exact hn x hx
          · exact .inr ⟨j + 1, e', by rw [show i0 + 1 + j = i0 + (j + 1) from Dt], Ek, pf⟩
    obtain ⟨r, hr, hx⟩ := key' es 0 qm
    refine ⟨r, hr, ?_⟩
    rcases hx with h | ⟨j, e, rfl, hj, hk⟩
    · exact .inl h
    · exact .inr ⟨j, e, by rw [Kf], hj, hk⟩
  · have : Instr.sameBits 10000 (kv (.ints ks) q) (kv (.ints ks) q) = true := by
      have h1 : ∀ (m : Nat) (a : Array Value), Instr.sameBits (m + 1) (.agg a) (.agg a) = ((a.size == a.size) && (a.toList.zip a.toList).all fun (x, y) => Instr.sameBits m x y) := fun m a => rfl
      rw [kv, show (10000 : Nat) = 9999 + 1 from rfl, h1, BEq.rfl, Bool.true_and]
      exact c1t 9999 b8e
    rw [Instr.keyThatStays, Iw this, Sem.run_pure]
  · have e' : (Value.agg (b13 ks q).toArray) = .agg (b13 ks q').toArray := e
    rw [Value.agg.injEq] at e'
    exact c0f hq dc (by simpa using e')
def stL:List TypeId:=[
 23,
 100,
 54,
 164,
 50,
 89,
 28,
 234,
 106,
 58,
 274,
  23]
def stT:TypeId→Bool:=fun t=>stL.contains t
def tb(l:List Int)(i:Nat):Int:=l.getD i 0
def b40(i:Nat):List SV:=[.int .i64 (tb [0,1,0,-1] i),.int .i64 (tb [-1,0,1,0] i),.int .u8 (tb [2,1,2,1] i),.int .i64 (tb [0,1,1,0] i),
 .int .i64 (tb [0,1,0,-1] i),.int .i64 (tb [-1,0,1,0] i),.int .u8 (tb [2,3,0,1] i),.int .i64 (tb [0,0,0,0] i),.int .i64 (tb [0,0,0,0] i),.int .u8 (tb [1,0,3,2] i),.int .i64 (tb [0,0,0,0] i),.int .i64 (tb [0,0,0,0] i),.int .u8 (tb [3,2,1,0] i),
 .int .i64 (tb [0,2,2,0] i),.int .i64 (tb [0,2,2,0] i),.int .i64 (tb [2,2,0,0] i),.int .i64 (tb [0,0,2,2] i)]
def b41(i:Nat):List SV:=[.int .i64 (tb [1,0,-1,0,-1,0,1,0] i),.int .i64 (tb [0,-1,0,1,0,-1,0,1] i),.int .i64 (tb [0,1,0,-1,0,-1,0,1] i),.int .i64 (tb [1,0,-1,0,1,0,-1,0] i)]
def c73:Nat→Option SV
 |1=>some (.rel 4 8 b41 0 0)
 |0=>some (.rel 17 4 b40 0 0)
 |_=>none
def ktT:TypeId→Option KT
 |98=>some (.ints [.i64,.u8])
 |259=>some (.ints [.i64,.u8])
 |124=>some (.ints [.i64,.i64,.u8])
 |204=>some (.ints [.i64,.i64,.u8,.i64,.i64,.u8])
 |_=>none
abbrev Kon:=List SV→Option (Prop×SV)
def tab(l:List (FuncId×Kon)):FuncId→Option Kon:=fun f=>match l with
 | []=>none
 |(g,k)::r=>if g==f then some k else tab r f
def tabX(l:List (FuncId×d20)):FuncId→Option d20:=fun f=>match l with
 | []=>none
 |(g,k)::r=>if g==f then some k else tabX r f
def tabH(l:List (FuncId×HK)):FuncId→Option HK:=fun f=>match l with
 | []=>none
 |(g,k)::r=>if g==f then some k else tabH r f
def g54(l:List (FuncId×Kon))(f:FuncId):Bool:=match l with
 | []=>false
 |(g,_)::r=>if g==f then true else g54 r f
noncomputable def EX(l:List (FuncId×Kon))(x:List (FuncId×d20))(h:List (FuncId×HK))(fz:Nat→Bool)(c2:Bool)(gr:Nat→List Ghost)(na:Nat)(ax:Nat→Bool)(av:Mu)(fs:List (FuncId×Kon)):Env:={P:=Go.Proofs.Tryz.prog,C:=tab (fs++l),glob:=c73,ng:=0,st:=stT,X:=tabX x,fz:=fz,na:=na,ax:=ax,av:=av,kt:=ktT,Hc:=tabH h,c2:=c2,gr:=gr,fs:=fun f=>g54 fs f}
noncomputable abbrev E0(l:List (FuncId×Kon)):Env:=EX l [] [] (fun _=>false) false (fun _=>[]) 0 (fun _=>true) (fun _=>none) []
abbrev PS(f:FuncId)(k:Kon):Prop:=f2r Go.Proofs.Tryz.prog c73 f k
abbrev PF(f:FuncId)(k:Kon):Prop:=PS f k∧f0i Go.Proofs.Tryz.prog c73 f k
abbrev ES(f:FuncId)(e:d20):Prop:=g8j Go.Proofs.Tryz.prog c73 f e
abbrev HS(f:FuncId)(h:HK):Prop:=f6w Go.Proofs.Tryz.prog c73 f h
theorem c6w{l:List (FuncId×Kon)}{x:List (FuncId×d20)}{h:List (FuncId×HK)}{fz:Nat→Bool}{c2:Bool}{gr:Nat→List Ghost}{na:Nat}{ax:Nat→Bool}{av:Mu}{fs:List (FuncId×Kon)}(hl:∀x∈l,PS x.1 x.2)(hx:∀y∈x,ES y.1 y.2)(hh:∀y∈h,HS y.1 y.2)(hf:∀x∈fs,PF x.1 x.2):b1u (EX l x h fz c2 gr na ax av fs):=by
 refine⟨?_,?_,?_⟩
 ·intro f k hk
  have key:∀(l:List (FuncId×Kon)),(∀x∈l,PS x.1 x.2)→tab l f=some k→PS f k:=by
   intro l
   induction l with
   |nil=>intro _ h;cases h
   |cons x l ih=>
    intro h hk
    simp only[tab]at hk
    split at hk
    ·rename_i e
     cases hk
     have:=h x Dv
     rw[Lp.1 e]at this
     exact this
    ·exact Ct
  have key2:∀(fs:List (FuncId×Kon)),(∀x∈fs,PF x.1 x.2)→tab (fs++l) f=some k→PS f k∧(g54 fs f=true→f0i Go.Proofs.Tryz.prog c73 f k):=by
   intro fs
   induction fs with
   |nil=>intro _ h;exact⟨key l hl h,fun h=>E2⟩
   |cons x fs ih=>
    intro h hk
    simp only[L2,tab]at hk
    split at hk
    ·rename_i e
     cases hk
     have:=h x Dv
     rw[Lp.1 e]at this
     exact⟨this.1,fun _=>this.2⟩
    ·rename_i e
     obtain⟨h1,h2⟩:=ih (fun y hy=>h y F4) hk
     refine⟨h1,fun h3=>h2 ?_⟩
     simp only[g54]at h3
     rwa[Iy e]at h3
  exact key2 fs hf hk
 ·intro f k hk
  have key:∀(l:List (FuncId×d20)),(∀x∈l,ES x.1 x.2)→tabX l f=some k→ES f k:=by
   intro l
   induction l with
   |nil=>intro _ h;cases h
   |cons x l ih=>
    intro h hk
    simp only[tabX]at hk
    split at hk
    ·rename_i e
     cases hk
     have:=h x Dv
     rw[Lp.1 e]at this
     exact this
    ·exact Ct
  exact key x hx hk
 ·intro f k hk
  have key:∀(l:List (FuncId×HK)),(∀x∈l,HS x.1 x.2)→tabH l f=some k→HS f k:=by
   intro l
   induction l with
   |nil=>intro _ h;cases h
   |cons x l ih=>
    intro h hk
    simp only[tabH]at hk
    split at hk
    ·rename_i e
     cases hk
     have:=h x Dv
     rw[Lp.1 e]at this
     exact this
    ·exact Ct
  exact key h hh hk
def stOK(P:Program)(T:TypeId):Bool:= !P.stoodInHeld T&& !P.eqGuardType P.depth T&&match P.underlying T with
 |some (.struct fs)=>fs.toList.all fun f=>f.name != "_"
 |_=>false
theorem f62{P:Program}{T:TypeId}(h:stOK P T=true):P.stoodInHeld T=false∧P.eqGuardType P.depth T=false∧∃fs,P.underlying T=some (.struct fs)∧∀f∈fs.toList,f.name≠ "_" :=by
 unfold stOK at h
 simp only[Is]at h
 obtain⟨⟨h1,h2⟩,h3⟩:=h
 refine⟨h1,h2,?_⟩
 split at h3
 ·rename_i fs fu
  refine⟨fs,fu,fun f hf=> ?_⟩
  have:=J4.1 h3 f hf
  simpa using this
 ·cases h3
theorem j3j:(stL.all fun T=>stOK Go.Proofs.Tryz.prog T)=true:=Du
theorem f9c:∀T,stT T=true→Go.Proofs.Tryz.prog.stoodInHeld T=false∧Go.Proofs.Tryz.prog.eqGuardType Go.Proofs.Tryz.prog.depth T=false∧∃fs,Go.Proofs.Tryz.prog.underlying T=some (.struct fs)∧∀f∈fs.toList,f.name≠ "_" :=by
 intro T hT
 exact f62 (J4.1 j3j T (List.contains_iff_mem.1 hT))
noncomputable def EB:Env:={P:=Go.Proofs.Tryz.prog,C:=fun _=>none,glob:=fun _=>none,ng:=0,st:=stT}
theorem j4z:EnvOK EB:=⟨f9c,fun T K h=>E2⟩
theorem dec2(a b a' b':Int):(decide (a=a')&&(decide (b=b')&&true))=decide ([a,b]=[a',b']):=by
 rw[Mm];simp
theorem dec3(a b c a' b' c':Int):(decide (a=a')&&(decide (b=b')&&(decide (c=c')&&true)))=decide ([a,b,c]=[a',b',c']):=by
 rw[Mm];simp
theorem dec6(a b c d e f a' b' c' d' e' f':Int):((decide (a=a')&&(decide (b=b')&&(decide (c=c')&&true)))&&((decide (d=d')&&(decide (e=e')&&(decide (f=f')&&true)))&&true))=decide ([a,b,c,d,e,f]=[a',b',c',d',e',f']):=by
 rw[Mm];simp[and_assoc]
theorem j0n(a b a' b':Int):d96 EB 8 100 [.int .i64 a,.int .u8 b] [.int .i64 a',.int .u8 b']=some (decide (a=a')&&(decide (b=b')&&true)):=Du
theorem f2e:KLaw Go.Proofs.Tryz.prog 100 (.ints [.i64,.u8]):=c7c j4z Du (fun us vs ha hb=>by
 match us,vs,ha,hb with
 | [a,b],[a',b'],_,_=>rw[←dec2];exact j0n a b a' b') Du
theorem j10(a b c a' b' c':Int):d96 EB 8 54 [.int .i64 a,.int .i64 b,.int .u8 c] [.int .i64 a',.int .i64 b',.int .u8 c']=some (decide (a=a')&&(decide (b=b')&&(decide (c=c')&&true))):=Du
theorem g6u:KLaw Go.Proofs.Tryz.prog 54 (.ints [.i64,.i64,.u8]):=c7c j4z Du (fun us vs ha hb=>by
 match us,vs,ha,hb with
 | [a,b,c],[a',b',c'],_,_=>rw[←dec3];exact j10 a b c a' b' c') Du
theorem g3j(a b c d e f a' b' c' d' e' f':Int):d96 EB 8 211 [.int .i64 a,.int .i64 b,.int .u8 c,.int .i64 d,.int .i64 e,.int .u8 f] [.int .i64 a',.int .i64 b',.int .u8 c',.int .i64 d',.int .i64 e',.int .u8 f']=some ((decide (a=a')&&(decide (b=b')&&(decide (c=c')&&true)))&&((decide (d=d')&&(decide (e=e')&&(decide (f=f')&&true)))&&true)):=Du
theorem f98:KLaw Go.Proofs.Tryz.prog 211 (.ints [.i64,.i64,.u8,.i64,.i64,.u8]):=c7c j4z Du (fun us vs ha hb=>by
 match us,vs,ha,hb with
 | [a,b,c,d,e,f],[a',b',c',d',e',f'],_,_=>rw[←dec6];exact g3j a b c d e f a' b' c' d' e' f') Du
theorem j57:∀T K,ktT T=some K→∃key elem,Go.Proofs.Tryz.prog.underlying T=some (.map key elem)∧KLaw Go.Proofs.Tryz.prog key K:=by
 intro T K h
 unfold ktT at h
 split at h<;>cases h
 ·exact⟨_,_,(by kernel_rfl:Go.Proofs.Tryz.prog.underlying 98=some (.map 100 48)),f2e⟩
 ·exact⟨_,_,(by kernel_rfl:Go.Proofs.Tryz.prog.underlying 259=some (.map 100 4)),f2e⟩
 ·exact⟨_,_,(by kernel_rfl:Go.Proofs.Tryz.prog.underlying 124=some (.map 54 3)),g6u⟩
 ·exact⟨_,_,(by kernel_rfl:Go.Proofs.Tryz.prog.underlying 204=some (.map 211 215)),f98⟩
theorem j36(l:List (FuncId×Kon))(x:List (FuncId×d20))(h:List (FuncId×HK))(fz:Nat→Bool)(c2:Bool)(gr:Nat→List Ghost)(na:Nat)(ax:Nat→Bool)(av:Mu)(fs:List (FuncId×Kon)):EnvOK (EX l x h fz c2 gr na ax av fs):=⟨f9c,j57⟩
theorem mixed:Go.Proofs.Tryz.prog.follows .mixedOrders=true:=Du
structure Cs where
 l:List (FuncId×Kon):=[]
 x:List (FuncId×d20):=[]
 h:List (FuncId×HK):=[]
 fz:Nat→Bool:=fun _=>false
 c2:Bool:=false
 gr:Nat→List Ghost:=fun _=>[]
 G:GhX:={}
 fs:List (FuncId×Kon):=[]
 fsok:∀x∈fs,PF x.1 x.2:=by simp
def Cs.OK(c:Cs):Prop:=(∀x∈c.l,PS x.1 x.2)∧(∀y∈c.x,ES y.1 y.2)∧∀y∈c.h,HS y.1 y.2
theorem f04{f:FuncId}{fn:Func}(c:Cs)(hc:c.OK)(F:Fam)(I:F.ι→Nat→Option Inv)(k:Kon)(hk:Law F k)(b8:∀i,(F.args i).length≤fn.ntmps)
 (hf:Go.Proofs.Tryz.prog.funcs[f]?=some fn) (hb:fn.body.isSome=true) (hn:(fn.name== "runtime.NumGoroutine")=false) (du:b3d c.c2 (fn.body.getD .skip)=true)
 (H:∀i,F.pre i→wpC (EX c.l c.x c.h c.fz c.c2 c.gr 0 (fun _=>true) (fun _=>none) c.fs) fn.ntmps (I i) (fn.body.getD .skip) ⟨d60 (EX c.l c.x c.h c.fz c.c2 c.gr 0 (fun _=>true) (fun _=>none) c.fs) fn (F.res i),fun _ _=>False,d60 (EX c.l c.x c.h c.fz c.c2 c.gr 0 (fun _=>true) (fun _=>none) c.fs) fn (F.res i)⟩ ⟨b9g 0 (F.args i),[]⟩):PS f k:=by
 cases qb:fn.body with
 |none=>rw[qb]at hb;cases hb
 |some code=>
  rw[qb]at du H
  exact verify (EX c.l c.x c.h c.fz c.c2 c.gr 0 (fun _=>true) (fun _=>none) c.fs) rfl rfl rfl (j36 ..) (c6w hc.1 hc.2.1 hc.2.2 c.fsok) mixed hf qb hn F I k hk b8 du H
theorem conF{f:FuncId}{fn:Func}(c:Cs)(hc:c.OK)(F:Fam)(I:F.ι→Nat→Option Inv)(k:Kon)(hk:Law F k)(b8:∀i,(F.args i).length≤fn.ntmps)
 (hf:Go.Proofs.Tryz.prog.funcs[f]?=some fn) (hb:fn.body.isSome=true) (hn:(fn.name== "runtime.NumGoroutine")=false) (du:b3d c.c2 (fn.body.getD .skip)=true)
 (H:∀i,F.pre i→wpC (EX c.l c.x c.h c.fz c.c2 c.gr 0 (fun _=>true) (fun _=>none) c.fs) fn.ntmps (I i) (fn.body.getD .skip) ⟨g82 (EX c.l c.x c.h c.fz c.c2 c.gr 0 (fun _=>true) (fun _=>none) c.fs) fn (F.res i),fun _ _=>False,g82 (EX c.l c.x c.h c.fz c.c2 c.gr 0 (fun _=>true) (fun _=>none) c.fs) fn (F.res i)⟩ ⟨b9g 0 (F.args i),[]⟩):PF f k:=by
 cases qb:fn.body with
 |none=>rw[qb]at hb;cases hb
 |some code=>
  rw[qb]at du H
  exact j26 (EX c.l c.x c.h c.fz c.c2 c.gr 0 (fun _=>true) (fun _=>none) c.fs) rfl rfl rfl (j36 ..) (c6w hc.1 hc.2.1 hc.2.2 c.fsok) mixed hf qb hn F I k hk b8 du H
theorem con{f:FuncId}{fn:Func}(l:List (FuncId×Kon))(hl:∀x∈l,PS x.1 x.2)(F:Fam)(I:F.ι→Nat→Option Inv)(k:Kon)(hk:Law F k)(b8:∀i,(F.args i).length≤fn.ntmps)
 (hf:Go.Proofs.Tryz.prog.funcs[f]?=some fn) (hb:fn.body.isSome=true) (hn:(fn.name== "runtime.NumGoroutine")=false) (du:b3d false (fn.body.getD .skip)=true)
 (H:∀i,F.pre i→wpC (E0 l) fn.ntmps (I i) (fn.body.getD .skip) ⟨d60 (E0 l) fn (F.res i),fun _ _=>False,d60 (E0 l) fn (F.res i)⟩ ⟨b9g 0 (F.args i),[]⟩):PS f k:=
 f04 {l:=l} ⟨hl,Dv,Dv⟩ F I k hk b8 hf hb hn du H
theorem c90{f:FuncId}{fn:Func}(c:Cs)(hc:c.OK)(F:FamH)(I:F.ι→Nat→Option Inv)(h:HK)(hh:LawH F h)(b8:∀i,(F.args i).length≤fn.ntmps)(db:∀i,(F.own i).length≤(F.own' i).length)
 (hf:Go.Proofs.Tryz.prog.funcs[f]?=some fn) (hb:fn.body.isSome=true) (hn:(fn.name== "runtime.NumGoroutine")=false) (du:b3d c.c2 (fn.body.getD .skip)=true)
 (H:∀i μ,F.pre i→inG (EX c.l c.x c.h c.fz c.c2 c.gr (F.own i).length (fun k=> !F.chg.contains k) μ c.fs) c.G (wpC (EX c.l c.x c.h c.fz c.c2 c.gr (F.own i).length (fun k=> !F.chg.contains k) μ c.fs) fn.ntmps (I i) (fn.body.getD .skip) ⟨g2k (EX c.l c.x c.h c.fz c.c2 c.gr (F.own i).length (fun k=> !F.chg.contains k) μ c.fs) c.G (f9k (EX c.l c.x c.h c.fz c.c2 c.gr (F.own i).length (fun k=> !F.chg.contains k) μ c.fs) fn F i),fun _ _=>False,g2k (EX c.l c.x c.h c.fz c.c2 c.gr (F.own i).length (fun k=> !F.chg.contains k) μ c.fs) c.G (f9k (EX c.l c.x c.h c.fz c.c2 c.gr (F.own i).length (fun k=> !F.chg.contains k) μ c.fs) fn F i)⟩) ⟨b9g 0 (F.args i),F.own i⟩):HS f h:=by
 cases qb:fn.body with
 |none=>rw[qb]at hb;cases hb
 |some code=>
  rw[qb]at du H
  exact j4e F (fun i μ=>EX c.l c.x c.h c.fz c.c2 c.gr (F.own i).length (fun k=> !F.chg.contains k) μ c.fs) (fun _ _=>rfl) (fun _ _=>rfl) (fun _ _=>⟨rfl,rfl,rfl⟩) (fun _ _=>j36 ..) (fun _ _=>c6w hc.1 hc.2.1 hc.2.2 c.fsok) mixed hf qb hn I h hh b8 db c.G (fun _ _=>du) H
def Lf(p:Prop):Prop:=Classical.choose (p:=fun q:Prop=>q=p) ⟨p,rfl⟩
theorem Le(p:Prop):Lf p=p:=Classical.choose_spec (p:=fun q:Prop=>q=p) ⟨p,rfl⟩
theorem Lm{p:Prop}(h:p):Lf p:=Eq.mpr (Le p) h
structure Wk (q p:Prop):Prop where
 out:q→p
theorem Wan{a b A B:Prop}(f:Wk a A)(g:Wk b B):Wk (a∧b) (A∧B):=⟨fun h=>⟨f.1 h.1,g.1 h.2⟩⟩
theorem Was{a x B:Prop}(hx:x)(f:Wk a B):Wk a (Ask x∧B):=⟨fun h=>⟨Ask.mk hx,f.1 h⟩⟩
theorem Wbr{c:Bool}{A B a b:Prop}(f:c=true→Wk a A)(g:c=false→Wk b B):Wk ((c=true→a)∧(c=false→b)) (Br c A B):=⟨fun k=>Br.mk (fun h=>(f h).1 (k.1 h)) (fun h=>(g h).1 (k.2 h))⟩
theorem Wbt{c:Bool}{A B a:Prop}(h:c=true)(f:Wk a A):Wk a (Br c A B):=⟨fun k=>Br.litT h (f.1 k)⟩
theorem Wbf{c:Bool}{A B a:Prop}(h:c=false)(f:Wk a B):Wk a (Br c A B):=⟨fun k=>Br.litF h (f.1 k)⟩
theorem Wtr:Wk True True:=⟨fun h=>h⟩
theorem Wro{n:Nat}{f f':Nat→List SV}{a:Prop}(k:Wk a (∀i,i<n→f i=f' i)):Wk a (∀i,i<n→d0g (f i) (f' i)):=⟨fun h=>d1p (k.1 h)⟩
structure Hu (p:Prop):Prop where
 out:p
theorem Iu{p a:Prop}(f:p→a):Hu p→a:=fun h=>f h.1
theorem Wub{p q a:Prop}(f:p→Wk a q):Wk (Hu p→a) (Ub p q):=⟨fun k=>Ub.mk fun h=>(f h).1 (k ⟨h⟩)⟩
theorem Wla{x y:Option Entry}(h:x=y):Wk True (g2f x y):=⟨fun _=>g2f.mk h⟩
theorem Wlf{p:Prop}:Wk (Lf p) p:=⟨Eq.mp (Le p)⟩
theorem Wsa{q p:Prop}(h:Wk q (Ask p)):Wk q (Ask p):=h
theorem Wse{q:Prop}{α:Type}{a b:α}(h:Wk q (a=b)):Wk q (a=b):=h
theorem Wsf{q:Prop}(h:Wk q False):Wk q False:=h
theorem Wsl{q:Prop}{a b:Option Entry}(h:Wk q (g2f a b)):Wk q (g2f a b):=h
theorem Wsk{q:Prop}{k:IntKind}{n:Int}(h:Wk q (inK k n)):Wk q (inK k n):=h
universe u
theorem Wsx{q:Prop}{α:Sort u}{p:α→Prop}(h:Wk q (∃x,p x)):Wk q (∃x,p x):=h
theorem Wsp{q:Prop}{α:Sort u}{p:α→Prop}(h:Wk q (∀x,p x)):Wk q (∀x,p x):=h
theorem WlA{a x:Prop}(f:Wk a x):Wk a (Ask x):=⟨fun h=>Ask.mk (f.1 h)⟩
theorem Wlt{p:Prop}(h:p):Wk True p:=⟨fun _=>h⟩
theorem wlk{p:Prop}(q:Prop)(hq:q)(h:Wk q p:=by
 repeat'(first
  |(with_reducible refine' Was ?hx ?_
    case hx=>first|exact trivial|exact fun _=>trivial)
  |with_reducible refine' Wan ?_ ?_
  |(with_reducible refine' Wbt ?hx ?_
    case hx=>exact(Eq.refl true))
  |(with_reducible refine' Wbf ?hx ?_
    case hx=>exact(Eq.refl false))
  |with_reducible refine' Wbr (fun h=> ?_) (fun h=> ?_)
  |with_reducible exact Wtr
  |with_reducible refine' Wro ?_
  |with_reducible refine' Wub (fun hu=> ?_)
  |(with_reducible refine' Wla ?hx
    case hx=>exact rfl)
  |(fail_if_success (with_reducible first|refine' Wsa ?_|refine' Wse ?_|refine' Wsf ?_|refine' Wsx ?_|refine' Wsp ?_|refine' Wsk ?_|refine' Wsl ?_)
    conv=>arg 2;whnf))
 all_goals(try with_reducible refine' WlA ?_)
 all_goals(try first|exact Wlt trivial|exact Wlt (fun _=>trivial))
 all_goals(try((conv=>arg 2;dsimp only);try with_reducible first|exact Wtr|exact Wlt rfl))
 all_goals(try exact Wlf)):p:=h.1 hq
theorem wln{p:Prop}(q:Prop)(hq:q)(h:Wk q p:=by
 repeat'(first
  |(with_reducible refine' Was ?hx ?_
    case hx=>first|exact trivial|exact fun _=>trivial)
  |with_reducible refine' Wan ?_ ?_
  |(with_reducible refine' Wbt ?hx ?_
    case hx=>exact(Eq.refl true))
  |(with_reducible refine' Wbf ?hx ?_
    case hx=>exact(Eq.refl false))
  |with_reducible refine' Wbr (fun h=> ?_) (fun h=> ?_)
  |with_reducible exact Wtr
  |with_reducible refine' Wub (fun hu=> ?_)
  |(with_reducible refine' Wla ?hx
    case hx=>exact rfl)
  |(fail_if_success (with_reducible first|refine' Wsa ?_|refine' Wse ?_|refine' Wsf ?_|refine' Wsx ?_|refine' Wsp ?_|refine' Wsk ?_|refine' Wsl ?_)
    conv=>arg 2;whnf))
 all_goals(try with_reducible refine' WlA ?_)
 all_goals(try first|exact Wlt trivial|exact Wlt (fun _=>trivial))
 all_goals(try((conv=>arg 2;dsimp only);try with_reducible first|exact Wtr|exact Wlt rfl))
 all_goals(try exact Wlf)):p:=h.1 hq
end Go.Proofs.YtdblhepcmjecgaaGreatDoor.V
namespace Go.Proofs.YtdblhepcmjecgaaGreatDoor.V
open Go Go.RowKit
theorem d8d{P:Program}{w:World}{n:String}{g:Nat}{cs:Array Value}(hg:P.globalNamed n=some g)(h:w.var? P n=some cs):g<w.heap.size:=by
 simp only[World.var?,hg,Lq]at h
 split at h
 ·rename_i hc;exact(J9.1 hc).1
 ·cases h
theorem g0b:laidOutB Go.Proofs.Tryz.prog=true:=Du
theorem c7n{W:World}{A:Nat→Prop}(hA:∀b,¬A b){n:String}{g g0:Nat}{t:TypeId}{cs:Array Value}{fuel:Nat}{d:DataW Unit}{p:List MemPlace}{sz m:Nat}{f:Nat→List SV}
 (hg:Go.Proofs.Tryz.prog.globalNamed n=some g) (ht:(Go.Proofs.Tryz.prog.globals[g]?).map (·.type)=some t) (hv:W.var? Go.Proofs.Tryz.prog n=some cs) (hd:DataW.trod (fun _=>()) Go.Proofs.Tryz.prog W 0 (fun _=>true) false fuel t cs.toList=some (d,p))
 (eg:Go.Proofs.Tryz.prog.globalNamed n=some g0) (hf:(Go.Proofs.Tryz.prog.globals[g0]?).map (fun gl=>g1k Go.Proofs.Tryz.prog 10 gl.type&&isVar Go.Proofs.Tryz.prog gl.type)=some true) (hp:c8k d=true) (hm:0<m) (hk:f65 sz m f (f32 d)=true):
 (SV.rel sz m f 0 0).pure=true∧D W A b0a (.rel sz m f 0 0) (.pointer (some ⟨g0,0,none⟩)):=by
 obtain rfl:=Jp (eg.symm.trans hg)
 obtain⟨gl,fb,rfl⟩:=J1.1 ht
 rw[fb]at hf
 simp only[K7,Jh,Km]at hf
 have e:=f90 g0b fuel gl.type cs.toList (d,p) 10 hf.1 hf.2 hd hp
 refine d3z (cs:=cs.toList) hm (hA g0) (d8d hg hv) (fun k=> ?_) (by rw[e];exact hk)
 rw[World.var?_cell hg hv k];simp
open Classical in
noncomputable def f5c(F:Fam):List SV→Option (Prop×SV):=fun zs=>if∃i,F.pre i∧zs=F.args i then some (True,.bool true)else none
theorem d95{f:FuncId}{F:Fam}(this:PS f (f5c F))(i:F.ι)(hp:F.pre i)
 {w:World} {vals:List Value} (hg:∀g t,c73 g=some t→t.pure=true∧D w (fun _=>False) b0a t (.pointer (some ⟨g,0,none⟩))) (hD:DL w (fun _=>False) b0a (F.args i) vals):
 Calls Go.Proofs.Tryz.prog f vals.toArray w fun e w'=>e=.returned (.bool true)∧Fr w.heap.size (fun _=>False) w w':=by
 refine(this.2 (fun _=>False) w (F.args i) vals True (.bool true) (fun b h=>h.elim) hg hD ?_ trivial).mono ?_
 ·unfold f5c
  rw[Iw ⟨i,hp,rfl⟩]
 ·rintro e w' ⟨v,rfl,hv,bg⟩
  cases hv
  exact⟨rfl,bg⟩
theorem top{f:FuncId}{fn:Func}(c:Cs)(hc:c.OK)(F:Fam)(I:F.ι→Nat→Option Inv)(dn:∀i,F.res i=.bool true)(bj:∀i,b2h (F.args i) (F.args i))(b8:∀i,(F.args i).length≤fn.ntmps)
 (hf:Go.Proofs.Tryz.prog.funcs[f]?=some fn) (hb:fn.body.isSome=true) (hn:(fn.name== "runtime.NumGoroutine")=false) (du:b3d c.c2 (fn.body.getD .skip)=true)
 (H:∀i,F.pre i→wpC (EX c.l c.x c.h c.fz c.c2 c.gr 0 (fun _=>true) (fun _=>none) c.fs) fn.ntmps (I i) (fn.body.getD .skip) ⟨d60 (EX c.l c.x c.h c.fz c.c2 c.gr 0 (fun _=>true) (fun _=>none) c.fs) fn (F.res i),fun _ _=>False,d60 (EX c.l c.x c.h c.fz c.c2 c.gr 0 (fun _=>true) (fun _=>none) c.fs) fn (F.res i)⟩ ⟨b9g 0 (F.args i),[]⟩) (i:F.ι) (hp:F.pre i)
 {w:World} {vals:List Value} (hg:∀g t,c73 g=some t→t.pure=true∧D w (fun _=>False) b0a t (.pointer (some ⟨g,0,none⟩))) (hD:DL w (fun _=>False) b0a (F.args i) vals):
 Calls Go.Proofs.Tryz.prog f vals.toArray w fun e w'=>e=.returned (.bool true)∧Fr w.heap.size (fun _=>False) w w':=by
 have:=f04 c hc F I (f5c F) (fun zs p s hk hp=>by
  unfold f5c at hk
  split at hk
  ·rename_i za
   obtain⟨i,hi,rfl⟩:=za
   cases hk
   exact⟨i,bj i,hi,(dn i).symm⟩
  ·cases hk) b8 hf hb hn du H
 exact d95 this i hp hg hD
theorem d6j{w w':World}(h:Fr w.heap.size (fun _=>False) w w'):Below w.heap.size w w':=⟨h.os,h.tape,h.output,h.size,fun k hk=>h.block k hk (fun h=>h)⟩
theorem c26{H:Type}{enc:TypeId×Value→H}{P:Program}(hl:laidOutB P=true){W W':World}(hb:Below W.heap.size W W'):∀{ts:List TypeId} {vs:List Value} {ds:List (DataW H)} {ps:List MemPlace},
 (ts.all fun t=>P.readableRec t&&decide (t<P.types.size))=true→DataW.TrodAll enc P W 0 (fun _=>true) true ts vs ds ps→(∀x∈ps,x.block<W.heap.size)→DataW.TrodAll enc P W' 0 (fun b=>decide (b<W.heap.size)) true ts vs ds ps
 | [],vs,ds,ps,_,h,_=>by
   obtain⟨rfl,rfl,rfl⟩:=Go.ChangeShapes.trodAll_nil h
   rfl
 |t::ts,vs,ds,ps,hr,h,h9=>by
  obtain⟨v,vs',d,ds',p,q,rfl,rfl,rfl,h1,h2⟩:=Go.ChangeShapes.trodAll_cons h
  simp only[List.all_cons,Ih]at hr
  exact⟨p,q,Below.trod hl hr.1.1 hr.1.2 h1 hb (fun x hx=>h9 x Ef),c26 hl hb (by simpa using hr.2) h2 (fun x hx=>h9 x Ef),rfl⟩
theorem g3n{H:Type}{enc:TypeId×Value→H}{P:Program}(hl:laidOutB P=true){fn:Func}{s:ChangeSpec}{tb:TypeId}{W W':World}{args:Array Value}{ds gs:List (DataW H)}{before:List MemPlace}(hv:s.vars=[])(N2:fn.resultTypes= #[tb])(htb:P.underlying tb=some .bool)
 (te:s.fn H (ds++gs)={results:=[.lit (.bool true)],args:=ds}) (hr:(fn.params.toList.all fun t=>P.readableRec t&&decide (t<P.types.size))=true) (hW:DataW.Whole enc P fn.params.toList s.vars false W args.toList ds gs before) (hb:Below W.heap.size W W'):
 s.post enc P fn false true false false W args (.bool true) W':=by
 have tm:=hW
 obtain⟨p,q,hA,hV,rfl,P4,fk⟩:=tm
 rw[hv]at hV
 obtain⟨rfl,rfl⟩:=Go.ChangeShapes.trodVars_none hV
 refine⟨ds,[],p++[],[],p,[],hW,?_,?_,?_,hb.frame _,fun h=>E2⟩
 ·rw[te,N2]
  exact Go.ChangeShapes.trodAll_mk1 (shut_bool htb true)
 ·rw[te]
  refine c26 hl hb hr hA (fun x hx=> ?_)
  have:=hW.lt x Ef
  simpa using this
 ·rw[te,hv]
  rfl
end Go.Proofs.YtdblhepcmjecgaaGreatDoor.V
