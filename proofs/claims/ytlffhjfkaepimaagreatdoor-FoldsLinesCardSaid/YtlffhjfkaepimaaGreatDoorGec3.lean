/-
  Parts of the proof: M2 S1 S2 R2. Conditions: none.
-/
import Derived.Test.YtlffhjfkaepimaaGreatDoorGec2
import Derived.WideKeyRuns
import Derived.Test.YtlffhjfkaepimaaGreatDoorRows
import Derived.Test.YtlffhjfkaepimaaGreatDoorChecked
set_option maxRecDepth 100000
set_option maxHeartbeats 40000000
namespace Go.Proofs.YtlffhjfkaepimaaGreatDoor.V
open Go
def RV(P:Program):Nat->TypeId->Nat->Bool
 |0,_,_=>false
 |d+1,T,n=>match P.underlying T with
  |some .bool|some (.int _)|some .string=>decide (n=1)&&decide (DC P T=some 1)
  |some (.struct a)=>a.toList.all λf=>match DC P f.type with
   |some k=>decide (f.offset+k<=n)&&RV P d f.type k
   |none=>false
  |some (.array len e)=>match DC P e with
   |some k=>decide (n=len*k)&&RV P d e k
   |none=>false
  |_=>false
theorem d0s{P:Program}{d n:Nat}{T:TypeId}(h:RV P d T n=true):∃a,P.underlying T=some a/\(IJ a=false->n=1):=by
 cases d with
 |zero=>simp[RV]at h
 |succ d=>
  unfold RV at h;split at h
  .exact Cz
  .exact Cz
  .exact Cz
  .rename_i hu;exact⟨_,hu,λh=>Ge⟩
  .rename_i hu;exact⟨_,hu,λh=>Ge⟩
  .cases h
theorem run_ck{P:Program}(em:Bool):∀(d:Nat) (T:TypeId) (n:Nat) (us:List Value) (m:Nat) (w:World),RV P d T n=true->us.length=n->(∀u∈us,∃k i,u=.int k i)->(Instr.checkKey em (d+m) T (IA P T us)).run P w=.ok () w:=by
 intro d;induction d with
 |zero=>intro T n us m w h;simp[RV]at h
 |succ d ih=>
  intro T n us m w h hl hi;rw[show d+1+m=(d+m)+1 from Dz];have flat:∀dd,P.underlying T=some dd->IJ dd=false->(match dd with|.bool|.int _|.string=>True|_=>False)->us.length=1->(Instr.checkKey em (d+m+1) T (IA P T us)).run P w=.ok () w:=by
   intro dd hu ha hd h1;match us,h1 with
   | [u],_=>
     obtain⟨k,i,rfl⟩:=hi u E2;have:IA P T [Value.int k i]=.int k i:=by simp[IA,JI,hu,ha]
     rw[this];cases dd<;>simp at hd<;>simp[Instr.checkKey,Kn hu]
  unfold RV at h;split at h
  .exact D3
  .exact D3
  .exact D3
  .rename_i fs hu;have hv:IA P T us=.agg us.toArray:=by simp[IA,JI,hu,IJ]
   rw[hv,Instr.checkKey];simp only[Jd,Kn hu];rw[<-Array.forIn_toList];have bw:=Jr.1 h;clear h;generalize fs.toList=L at bw;induction L with
   |nil=>simp
   |cons f L ihL=>
    have hf:=bw f E2;split at hf;rotate_left
    .cases hf
    rename_i k hk;simp only[J3]at hf;obtain⟨ho,hc⟩:=hf;simp only[DC,Jq]at hk;obtain⟨inf,bu,rfl⟩:=hk;obtain⟨dd,O8,h1⟩:=d0s hc;have p1:=Ux (w:=w) O8 bu us f.offset Dz h1;have p2:=ih f.type inf.size ((us.drop f.offset).take inf.size) m w hc Eb (λu hu=>hi u (Nr (M4 hu)));have rest:=ihL (λx hx=>bw x Ej);by_cases hn:f.name= "_"
    .simp only[List.forIn_cons,Iw,hn,ne_eq,not_true_eq_false,if_false];exact rest
    .simp only[List.forIn_cons,Iw,hn,ne_eq,not_false_eq_true,L1,p1,p2];exact rest
  .rename_i len e hu;have hv:IA P T us=.agg us.toArray:=by simp[IA,JI,hu,IJ]
   split at h;rotate_left
   .cases h
   rename_i k hk;simp only[J3]at h;obtain⟨hn,hc⟩:=h;simp only[DC,Jq]at hk;obtain⟨inf,bu,rfl⟩:=hk;obtain⟨dd,O8,h1⟩:=d0s hc;rw[hv,Instr.checkKey];simp only[Jd,Kn hu];simp only[Std.Legacy.Range.forIn_eq_forIn_range',Std.Legacy.Range.size,Nat.sub_zero,Nat.add_one_sub_one,Nat.div_one];have bw:∀i∈List.range' 0 len,i<len:=λi hi=>by simp[List.mem_range']at hi;omega
   generalize List.range' 0 len=is at bw;induction is with
   |nil=>simp
   |cons j is ihj=>
    have hj:=bw j E2;have pn:j*inf.size+inf.size<=len*inf.size:=by rw[<-N5];exact Kr _ hj
    have p1:=Ux (w:=w) O8 bu us (j*inf.size) Dz h1;have p2:=ih e inf.size ((us.drop (j*inf.size)).take inf.size) m w hc Eb (λu hu=>hi u (Nr (M4 hu)));simp only[List.forIn_cons,Iw,IP (w:=w) bu,p1,p2];exact ihj (λx hx=>bw x Ej)
  .cases h
def PM:List IntKind->List Int->List SV
 |k::a,n::b=>.int k n::PM a b
 |_,_=>[]
theorem b03:∀{ks:List IntKind} {q:List Int},q.length=ks.length->(IQ ks q).length=ks.length
 | [],[],_=>rfl
 |_::ks,_::q,h=>by simp[IQ,b03 (ks:=ks) (q:=q) E6]
theorem b0t:∀{ks:List IntKind} {q:List Int},q.length=ks.length->(PM ks q).length=ks.length
 | [],[],_=>rfl
 |_::ks,_::q,h=>by simp[PM,b0t (ks:=ks) (q:=q) E6]
theorem c0y{w:World}{H:Nat->Prop}{μ:Mu}:∀{ks:List IntKind} {q:List Int} (i:Nat) (s:SV) (v:Value),(PM ks q)[i]?=some s->(IQ ks q)[i]?=some v->D w H μ s v
 |k::ks,n::q,i,s,v,hs,a=>by
  match i with
  |0=>simp[PM]at hs;simp[IQ]at a;subst hs a;exact .int
  |i+1=>exact c0y i s v (by simpa[PM]using hs) (by simpa[IQ]using a)
 | [],_,i,s,v,hs,_=>by simp[PM]at hs
 |_::_,[],i,s,v,hs,_=>by simp[PM]at hs
theorem b2d:∀{ks:List IntKind} {q c:List Int},q.length=ks.length->c.length=ks.length->IQ ks q=IQ ks c->q=c
 | [],[],[],_,_,_=>rfl
 |_::ks,a::q,b::c,h,d,e=>by simp only[IQ,List.cons.injEq,Value.int.injEq,O5]at e;rw[e.1,b2d (ks:=ks) E6 (by simpa using d) e.2]
theorem b1c:∀{ks:List IntKind} {q:List Int},∀u∈IQ ks q,∃k i,u=.int k i
 |k::ks,n::q,u,a=>by
  simp only[IQ,Jv]at a;rcases a with rfl|a
  .exact Cb
  .exact b1c (ks:=ks) u a
 | [],_,u,a=>by simp[IQ]at a
 |_::_,[],u,a=>by simp[IQ]at a
theorem b3g(m:Nat):∀{l:List Value},(∀u∈l,∃k i,u=.int k i)->((l.zip l).all λ(x,y)=>Instr.sameBits m x y)=true
 | [],_=>rfl
 |u::l,h=>by obtain⟨k,i,rfl⟩:=h u E2;simp only[List.zip_cons_cons,List.all_cons,Ke];refine⟨?_,b3g m (λu a=>h u (by simp[a]))⟩;cases m<;>simp[Instr.sameBits]
theorem b5j {E : Env} (I : EnvOK E) {key : TypeId} {ks : List IntKind} (l : (match E.P.underlying key with | some (.array _ _) | some (.struct _) => true | _ => false) = true)
    (J : ∀ i u : List Int, i.length = ks.length → u.length = ks.length → Nl E 8 key (PM ks i) (PM ks u) = some (decide (i = u))) (v : RV E.P 8 key ks.length = true) : KLaw E.P key (.ints ks) := by
  have z : ∀ A : List Value, IA E.P key A = .agg A.toArray := λA => by
    unfold IA JI
    cases hu : E.P.underlying key with
    | none => rw [hu] at l; cases l
    | some d => cases d <;> rw [hu] at l <;> first | (cases l; done) | simp [IJ]
  refine ⟨λw em q c => ?_, λw q f c s => ?_, λw q c => ?_, λq b c k e => ?_⟩
  · have := run_ck (P := E.P) em 8 key ks.length (IQ ks q) 9992 w v (b03 c) b1c
    rw [z] at this
    exact this
  · rw [run_findKey_eq w l]
    have n : ∀ (f : List MapEntry) (g : Nat), (∀ e ∈ f, ∃ b, MC (.ints ks) b ∧ e.key = kv (.ints ks) b) →
        ∃ r, (Instr.findAsking key (kv (.ints ks) q) f g).run E.P w = .ok r w ∧ ((r = none ∧ ∀ e ∈ f, e.key ≠ kv (.ints ks) q) ∨ ∃ (j : Nat) (e : MapEntry), r = some (g + j, e.val) ∧ f[j]? = some e ∧ e.key = kv (.ints ks) q) := by
      intro f
      induction f with
      | nil => intro g _; exact ⟨none, by simp [Instr.findAsking], .inl ⟨rfl, λe K => by simp at K⟩⟩
      | cons e f L =>
        intro g s
        obtain ⟨b, k, o⟩ := s e E2
        have F : (Op.equal key (kv (.ints ks) q) e.key).run E.P w = .ok (decide (q = b)) w := by
          have := (b90 (w := w) (H := λ_ => False) (μ := BT) I 8 key (PM ks q) (PM ks b) _ (IQ ks q) (IQ ks b) 9992 (J q b c k) ((b03 c).trans (b0t c).symm) ((b03 k).trans (b0t k).symm) c0y c0y).2
          rw [z, z] at this
          rw [o]
          exact this
        by_cases B : q = b
        · subst B
          refine ⟨some (g + 0, e.val), ?_, .inr ⟨0, e, rfl, rfl, o⟩⟩
          simp [Instr.findAsking, F]
        · obtain ⟨r, C, hx⟩ := L (g + 1) (λx hx => s x Ej)
          refine ⟨r, by simp [Instr.findAsking, F, B, C], ?_⟩
          rcases hx with ⟨rfl, M⟩ | ⟨j, t, rfl, hj, N⟩
          · refine .inl ⟨rfl, λx hx => ?_⟩
            rcases Jv.1 hx with rfl | hx
            · intro G
              rw [o] at G
              have : (IQ ks b).toArray = (IQ ks q).toArray := by simpa [kv] using G
              exact B (b2d c k (by simpa using this.symm))
            · exact M x hx
          · exact .inr ⟨j + 1, t, by rw [show g + 1 + j = g + (j + 1) from Dz], Er, N⟩
    obtain ⟨r, C, hx⟩ := n f 0 s
    refine ⟨r, C, ?_⟩
    rcases hx with h | ⟨j, e, rfl, hj, o⟩
    · exact .inl h
    · exact .inr ⟨j, e, by rw [L9], hj, o⟩
  · have : Instr.sameBits 10000 (kv (.ints ks) q) (kv (.ints ks) q) = true := by
      have O : ∀ (m : Nat) (a : Array Value), Instr.sameBits (m + 1) (.agg a) (.agg a) = ((a.size == a.size) && (a.toList.zip a.toList).all λ(x, y) => Instr.sameBits m x y) := λm a => rfl
      rw [kv, show (10000 : Nat) = 9999 + 1 from rfl, O, BEq.rfl, Bool.true_and]
      exact b3g 9999 b1c
    rw [Instr.keyThatStays, Ji this, Sem.run_pure]
  · have t : (Value.agg (IQ ks q).toArray) = .agg (IQ ks b).toArray := e
    rw [Value.agg.injEq] at t
    exact b2d c k (by simpa using t)
def stL:List TypeId:=[
 31,
 71,
 103,
 182,
 69,
 27,
 36,
 156,
 29,
 197,
  31]
def stT:TypeId->Bool:=λt=>stL.contains t
def tb(l:List Int)(i:Nat):Int:=l.getD i 0
def Xi(i:Nat):List SV:=[.int .i64 (tb [0,1,0,-1] i),.int .i64 (tb [-1,0,1,0] i),.int .u8 (tb [2,1,2,1] i),.int .i64 (tb [0,1,1,0] i),
 .int .i64 (tb [0,1,0,-1] i),.int .i64 (tb [-1,0,1,0] i),.int .u8 (tb [2,3,0,1] i),.int .i64 (tb [0,0,0,0] i),.int .i64 (tb [0,0,0,0] i),.int .u8 (tb [1,0,3,2] i),.int .i64 (tb [0,0,0,0] i),.int .i64 (tb [0,0,0,0] i),.int .u8 (tb [3,2,1,0] i),
 .int .i64 (tb [0,2,2,0] i),.int .i64 (tb [0,2,2,0] i),.int .i64 (tb [2,2,0,0] i),.int .i64 (tb [0,0,2,2] i)]
def Qz(i:Nat):List SV:=[.int .i64 (tb [1,0,-1,0,-1,0,1,0] i),.int .i64 (tb [0,-1,0,1,0,-1,0,1] i),.int .i64 (tb [0,1,0,-1,0,-1,0,1] i),.int .i64 (tb [1,0,-1,0,1,0,-1,0] i)]
def QA:Nat->Option SV
 |0=>some (.rel 4 8 Qz 0 0)
 |1=>some (.rel 17 4 Xi 0 0)
 |_=>none
def ktT:TypeId->Option KT
 |66=>some (.ints [.i64,.u8])
 |294=>some (.ints [.i64,.u8])
 |162=>some (.ints [.i64,.i64,.u8])
 |205=>some (.ints [.i64,.i64,.u8,.i64,.i64,.u8])
 |_=>none
abbrev AH:=List SV->Option (Prop×SV)
def Wa(l:List (FuncId×AH)):FuncId->Option AH:=λf=>match l with
 | []=>none
 |(g,k)::r=>if g==f then some k else Wa r f
def tabX(l:List (FuncId×KI)):FuncId->Option KI:=λf=>match l with
 | []=>none
 |(g,k)::r=>if g==f then some k else tabX r f
def tabH(l:List (FuncId×HK)):FuncId->Option HK:=λf=>match l with
 | []=>none
 |(g,k)::r=>if g==f then some k else tabH r f
def f3r(l:List (FuncId×AH))(f:FuncId):Bool:=match l with
 | []=>false
 |(g,_)::r=>if g==f then true else f3r r f
noncomputable def EX(l:List (FuncId×AH))(x:List (FuncId×KI))(h:List (FuncId×HK))(fz:Nat->Bool)(c2:Bool)(gr:Nat->List Ghost)(na:Nat)(ax:Nat->Bool)(av:Mu)(fs:List (FuncId×AH)):Env:={P:=Tryz.prog,C:=Wa (fs++l),glob:=QA,ng:=0,st:=stT,X:=tabX x,fz:=fz,na:=na,ax:=ax,av:=av,kt:=ktT,Hc:=tabH h,c2:=c2,gr:=gr,fs:=λf=>f3r fs f}
noncomputable abbrev E0(l:List (FuncId×AH)):Env:=EX l [] [] (λ_=>false) false (λ_=>[]) 0 (λ_=>true) (λ_=>none) []
abbrev PS(f:FuncId)(k:AH):Prop:=c9w Tryz.prog QA f k
abbrev PF(f:FuncId)(k:AH):Prop:=PS f k/\c9j Tryz.prog QA f k
abbrev ES(f:FuncId)(e:KI):Prop:=f7y Tryz.prog QA f e
abbrev HS(f:FuncId)(h:HK):Prop:=d6z Tryz.prog QA f h
theorem b69{l:List (FuncId×AH)}{x:List (FuncId×KI)}{h:List (FuncId×HK)}{fz:Nat->Bool}{c2:Bool}{gr:Nat->List Ghost}{na:Nat}{ax:Nat->Bool}{av:Mu}{fs:List (FuncId×AH)}(d:∀x∈l,PS x.1 x.2)(hx:∀y∈x,ES y.1 y.2)(g:∀y∈h,HS y.1 y.2)(i:∀x∈fs,PF x.1 x.2):HF (EX l x h fz c2 gr na ax av fs):=by
 refine⟨?_,?_,?_⟩
 .intro f k hk;have a:∀(l:List (FuncId×AH)),(∀x∈l,PS x.1 x.2)->Wa l f=some k->PS f k:=by
   intro l;induction l with
   |nil=>intro _ h;cases h
   |cons x l ih=>
    intro h hk;simp only[Wa]at hk;split at hk
    .rename_i e;cases hk;have:=h x E2;rw[Mc.1 e]at this;exact this
    .exact D4
  have b:∀(fs:List (FuncId×AH)),(∀x∈fs,PF x.1 x.2)->Wa (fs++l) f=some k->PS f k/\(f3r fs f=true->c9j Tryz.prog QA f k):=by
   intro fs;induction fs with
   |nil=>intro _ h;exact⟨a l d h,λh=>E9⟩
   |cons x fs ih=>
    intro h hk;simp only[Lx,Wa]at hk;split at hk
    .rename_i e;cases hk;have:=h x E2;rw[Mc.1 e]at this;exact⟨this.1,λ_=>this.2⟩
    .rename_i e;obtain⟨j,m⟩:=ih (λy hy=>h y Fi) hk;refine⟨j,λc=>m ?_⟩;simp only[f3r]at c;rwa[Jj e]at c
  exact b fs i hk
 .intro f k hk;have a:∀(l:List (FuncId×KI)),(∀x∈l,ES x.1 x.2)->tabX l f=some k->ES f k:=by
   intro l;induction l with
   |nil=>intro _ h;cases h
   |cons x l ih=>
    intro h hk;simp only[tabX]at hk;split at hk
    .rename_i e;cases hk;have:=h x E2;rw[Mc.1 e]at this;exact this
    .exact D4
  exact a x hx hk
 .intro f k hk;have a:∀(l:List (FuncId×HK)),(∀x∈l,HS x.1 x.2)->tabH l f=some k->HS f k:=by
   intro l;induction l with
   |nil=>intro _ h;cases h
   |cons x l ih=>
    intro h hk;simp only[tabH]at hk;split at hk
    .rename_i e;cases hk;have:=h x E2;rw[Mc.1 e]at this;exact this
    .exact D4
  exact a h g hk
def stOK(P:Program)(T:TypeId):Bool:= !P.stoodInHeld T&& !P.eqGuardType P.depth T&&match P.underlying T with
 |some (.struct fs)=>fs.toList.all λf=>f.name != "_"
 |_=>false
theorem d8c{P:Program}{T:TypeId}(h:stOK P T=true):P.stoodInHeld T=false/\P.eqGuardType P.depth T=false/\∃fs,P.underlying T=some (.struct fs)/\∀f∈fs.toList,f.name≠ "_" :=by
 unfold stOK at h;simp only[Je]at h;obtain⟨⟨h1,h2⟩,h3⟩:=h;refine⟨h1,h2,?_⟩;split at h3
 .rename_i fs m8;refine⟨fs,m8,λf hf=> ?_⟩;have:=Jr.1 h3 f hf;simpa using this
 .cases h3
theorem g20:(stL.all λT=>stOK Tryz.prog T)=true:=E1
theorem d7t:∀T,stT T=true->Tryz.prog.stoodInHeld T=false/\Tryz.prog.eqGuardType Tryz.prog.depth T=false/\∃fs,Tryz.prog.underlying T=some (.struct fs)/\∀f∈fs.toList,f.name≠ "_" :=by intro T hT;exact d8c (Jr.1 g20 T (List.contains_iff_mem.1 hT))
noncomputable def EB:Env:={P:=Tryz.prog,C:=λ_=>none,glob:=λ_=>none,ng:=0,st:=stT}
theorem f8g:EnvOK EB:=⟨d7t,λT K h=>E9⟩
theorem dec2(a b a' c:Int):(decide (a=a')&&(decide (b=c)&&true))=decide ([a,b]=[a',c]):=by rw[Lw];simp
theorem dec3(a b c a' d e:Int):(decide (a=a')&&(decide (b=d)&&(decide (c=e)&&true)))=decide ([a,b,c]=[a',d,e]):=by rw[Lw];simp
theorem dec6(a b c d e f a' g h i j k:Int):((decide (a=a')&&(decide (b=g)&&(decide (c=h)&&true)))&&((decide (d=i)&&(decide (e=j)&&(decide (f=k)&&true)))&&true))=decide ([a,b,c,d,e,f]=[a',g,h,i,j,k]):=by rw[Lw];simp[and_assoc]
theorem g1i(a b a' c:Int):Nl EB 8 71 [.int .i64 a,.int .u8 b] [.int .i64 a',.int .u8 c]=some (decide (a=a')&&(decide (b=c)&&true)):=E1
theorem c8i:KLaw Tryz.prog 71 (.ints [.i64,.u8]):=b5j f8g E1 (λc d e f=>by
 match c,d,e,f with
 | [a,b],[g,i],_,_=>rw[<-dec2];exact g1i a b g i) E1
theorem g3s(a b c a' d e:Int):Nl EB 8 103 [.int .i64 a,.int .i64 b,.int .u8 c] [.int .i64 a',.int .i64 d,.int .u8 e]=some (decide (a=a')&&(decide (b=d)&&(decide (c=e)&&true))):=E1
theorem f4t:KLaw Tryz.prog 103 (.ints [.i64,.i64,.u8]):=b5j f8g E1 (λd e f g=>by
 match d,e,f,g with
 | [a,b,c],[i,j,k],_,_=>rw[<-dec3];exact g3s a b c i j k) E1
theorem f3x(a b c d e f a' g i j k l:Int):Nl EB 8 213 [.int .i64 a,.int .i64 b,.int .u8 c,.int .i64 d,.int .i64 e,.int .u8 f] [.int .i64 a',.int .i64 g,.int .u8 i,.int .i64 j,.int .i64 k,.int .u8 l]=some ((decide (a=a')&&(decide (b=g)&&(decide (c=i)&&true)))&&((decide (d=j)&&(decide (e=k)&&(decide (f=l)&&true)))&&true)):=E1
theorem d6a:KLaw Tryz.prog 213 (.ints [.i64,.i64,.u8,.i64,.i64,.u8]):=b5j f8g E1 (λg i j k=>by
 match g,i,j,k with
 | [a,b,c,d,e,f],[l,m,n,o,q,r],_,_=>rw[<-dec6];exact f3x a b c d e f l m n o q r) E1
theorem f97:∀T K,ktT T=some K->∃a b,Tryz.prog.underlying T=some (.map a b)/\KLaw Tryz.prog a K:=by
 intro T K h;unfold ktT at h;split at h<;>cases h
 .exact⟨_,_,(by kernel_rfl:Tryz.prog.underlying 66=some (.map 71 67)),c8i⟩
 .exact⟨_,_,(by kernel_rfl:Tryz.prog.underlying 294=some (.map 71 4)),c8i⟩
 .exact⟨_,_,(by kernel_rfl:Tryz.prog.underlying 162=some (.map 103 3)),f4t⟩
 .exact⟨_,_,(by kernel_rfl:Tryz.prog.underlying 205=some (.map 213 216)),d6a⟩
theorem g06(l:List (FuncId×AH))(x:List (FuncId×KI))(h:List (FuncId×HK))(fz:Nat->Bool)(c2:Bool)(gr:Nat->List Ghost)(na:Nat)(ax:Nat->Bool)(av:Mu)(fs:List (FuncId×AH)):EnvOK (EX l x h fz c2 gr na ax av fs):=⟨d7t,f97⟩
theorem mixed:Tryz.prog.follows .mixedOrders=true:=E1
structure Cs where
 l:List (FuncId×AH):=[]
 x:List (FuncId×KI):=[]
 h:List (FuncId×HK):=[]
 fz:Nat->Bool:=λ_=>false
 c2:Bool:=false
 gr:Nat->List Ghost:=λ_=>[]
 G:GhX:={}
 fs:List (FuncId×AH):=[]
 fsok:∀x∈fs,PF x.1 x.2:=by simp
def Cs.OK(c:Cs):Prop:=(∀x∈c.l,PS x.1 x.2)/\(∀y∈c.x,ES y.1 y.2)/\∀y∈c.h,HS y.1 y.2
theorem LV{f:FuncId}{fn:Func}(c:Cs)(hc:c.OK)(F:Fam)(I:F.ι->Nat->Option Inv)(k:AH)(hk:Qv F k)(bb:∀i,(F.args i).length<=fn.ntmps)
 (hf:Tryz.prog.funcs[f]?=some fn) (hb:fn.body.isSome=true) (hn:(fn.name== "runtime.NumGoroutine")=false) (fw:Jo c.c2 (QD c.gr) (fn.body.getD .skip)=true)
 (H:∀i,F.pre i->FC (EX c.l c.x c.h c.fz c.c2 c.gr 0 (λ_=>true) (λ_=>none) c.fs) fn.ntmps (I i) (fn.body.getD .skip) ⟨MM (EX c.l c.x c.h c.fz c.c2 c.gr 0 (λ_=>true) (λ_=>none) c.fs) fn (F.res i),λ_ _=>False,MM (EX c.l c.x c.h c.fz c.c2 c.gr 0 (λ_=>true) (λ_=>none) c.fs) fn (F.res i)⟩ ⟨MO 0 (F.args i),[]⟩):PS f k:=by
 cases tu:fn.body with
 |none=>rw[tu]at hb;cases hb
 |some code=>
  rw[tu]at fw H;exact verify (EX c.l c.x c.h c.fz c.c2 c.gr 0 (λ_=>true) (λ_=>none) c.fs) rfl rfl rfl (g06 ..) (b69 hc.1 hc.2.1 hc.2.2 c.fsok) mixed hf tu hn F I k hk bb fw H
theorem conF{f:FuncId}{fn:Func}(c:Cs)(hc:c.OK)(F:Fam)(I:F.ι->Nat->Option Inv)(k:AH)(hk:Qv F k)(bb:∀i,(F.args i).length<=fn.ntmps)
 (hf:Tryz.prog.funcs[f]?=some fn) (hb:fn.body.isSome=true) (hn:(fn.name== "runtime.NumGoroutine")=false) (fw:Jo c.c2 (QD c.gr) (fn.body.getD .skip)=true)
 (H:∀i,F.pre i->FC (EX c.l c.x c.h c.fz c.c2 c.gr 0 (λ_=>true) (λ_=>none) c.fs) fn.ntmps (I i) (fn.body.getD .skip) ⟨Tk (EX c.l c.x c.h c.fz c.c2 c.gr 0 (λ_=>true) (λ_=>none) c.fs) fn (F.res i),λ_ _=>False,Tk (EX c.l c.x c.h c.fz c.c2 c.gr 0 (λ_=>true) (λ_=>none) c.fs) fn (F.res i)⟩ ⟨MO 0 (F.args i),[]⟩):PF f k:=by
 cases tu:fn.body with
 |none=>rw[tu]at hb;cases hb
 |some code=>
  rw[tu]at fw H;exact f9x (EX c.l c.x c.h c.fz c.c2 c.gr 0 (λ_=>true) (λ_=>none) c.fs) rfl rfl rfl (g06 ..) (b69 hc.1 hc.2.1 hc.2.2 c.fsok) mixed hf tu hn F I k hk bb fw H
theorem con{f:FuncId}{fn:Func}(l:List (FuncId×AH))(hl:∀x∈l,PS x.1 x.2)(F:Fam)(I:F.ι->Nat->Option Inv)(k:AH)(hk:Qv F k)(bb:∀i,(F.args i).length<=fn.ntmps)
 (hf:Tryz.prog.funcs[f]?=some fn) (hb:fn.body.isSome=true) (hn:(fn.name== "runtime.NumGoroutine")=false) (fw:Jo false (QD λ_=>[]) (fn.body.getD .skip)=true)
 (H:∀i,F.pre i->FC (E0 l) fn.ntmps (I i) (fn.body.getD .skip) ⟨MM (E0 l) fn (F.res i),λ_ _=>False,MM (E0 l) fn (F.res i)⟩ ⟨MO 0 (F.args i),[]⟩):PS f k:=
 LV {l:=l} ⟨hl,E2,E2⟩ F I k hk bb hf hb hn fw H
theorem JO{f:FuncId}{fn:Func}(c:Cs)(hc:c.OK)(F:FamH)(I:F.ι->Nat->Option Inv)(h:HK)(hh:LawH F h)(bb:∀i,(F.args i).length<=fn.ntmps)(fg:∀i,(F.own i).length<=(F.own' i).length)
 (hf:Tryz.prog.funcs[f]?=some fn) (hb:fn.body.isSome=true) (hn:(fn.name== "runtime.NumGoroutine")=false) (fw:Jo c.c2 (QD c.gr) (fn.body.getD .skip)=true)
 (H:∀i μ,F.pre i->inG (EX c.l c.x c.h c.fz c.c2 c.gr (F.own i).length (λk=> !F.chg.contains k) μ c.fs) c.G (FC (EX c.l c.x c.h c.fz c.c2 c.gr (F.own i).length (λk=> !F.chg.contains k) μ c.fs) fn.ntmps (I i) (fn.body.getD .skip) ⟨Qq (EX c.l c.x c.h c.fz c.c2 c.gr (F.own i).length (λk=> !F.chg.contains k) μ c.fs) c.G (Pp (EX c.l c.x c.h c.fz c.c2 c.gr (F.own i).length (λk=> !F.chg.contains k) μ c.fs) fn F i),λ_ _=>False,Qq (EX c.l c.x c.h c.fz c.c2 c.gr (F.own i).length (λk=> !F.chg.contains k) μ c.fs) c.G (Pp (EX c.l c.x c.h c.fz c.c2 c.gr (F.own i).length (λk=> !F.chg.contains k) μ c.fs) fn F i)⟩) ⟨MO 0 (F.args i),F.own i⟩):HS f h:=by
 cases tu:fn.body with
 |none=>rw[tu]at hb;cases hb
 |some code=>
  rw[tu]at fw H;exact g1p F (λi μ=>EX c.l c.x c.h c.fz c.c2 c.gr (F.own i).length (λk=> !F.chg.contains k) μ c.fs) (λ_ _=>rfl) (λ_ _=>rfl) (λ_ _=>⟨rfl,rfl,rfl⟩) (λ_ _=>g06 ..) (λ_ _=>b69 hc.1 hc.2.1 hc.2.2 c.fsok) mixed hf tu hn I h hh bb fg c.G (λ_ _=>fw) H
theorem Qv.of_eq{F:Fam}{k:AH}(h:∀a b s,k a=some (b,s)->b->∃i,BK a (F.args i)/\F.pre i/\s=F.res i):Qv F k:=h
def Lf(p:Prop):Prop:=Classical.choose (p:=λq:Prop=>q=p) ⟨p,rfl⟩
theorem Le(p:Prop):Lf p=p:=Classical.choose_spec (p:=λq:Prop=>q=p) ⟨p,rfl⟩
theorem Lm{p:Prop}(h:p):Lf p:=Eq.mpr (Le p) h
structure Wk (q p:Prop):Prop where
 out:q->p
theorem Wan{a b A B:Prop}(f:Wk a A)(g:Wk b B):Wk (a/\b) (A/\B):=⟨λh=>⟨f.1 h.1,g.1 h.2⟩⟩
theorem Was{a x B:Prop}(hx:x)(f:Wk a B):Wk a (LI x/\B):=⟨λh=>⟨LI.mk hx,f.1 h⟩⟩
theorem Wbr{c:Bool}{A B a b:Prop}(f:c=true->Wk a A)(g:c=false->Wk b B):Wk ((c=true->a)/\(c=false->b)) (Br c A B):=⟨λk=>Br.mk (λh=>(f h).1 (k.1 h)) (λh=>(g h).1 (k.2 h))⟩
theorem Wbt{c:Bool}{A B a:Prop}(h:c=true)(f:Wk a A):Wk a (Br c A B):=⟨λk=>Br.litT h (f.1 k)⟩
theorem Wbf{c:Bool}{A B a:Prop}(h:c=false)(f:Wk a B):Wk a (Br c A B):=⟨λk=>Br.litF h (f.1 k)⟩
theorem Wtr:Wk True True:=⟨λh=>h⟩
theorem Wro{n:Nat}{f b:Nat->List SV}{a:Prop}(k:Wk a (∀i,i<n->f i=b i)):Wk a (∀i,i<n->Hl (f i) (b i)):=⟨λh=>SH (k.1 h)⟩
structure Hu (p:Prop):Prop where
 out:p
theorem Iu{p a:Prop}(f:p->a):Hu p->a:=λh=>f h.1
theorem Wub{p q a:Prop}(f:p->Wk a q):Wk (Hu p->a) (Ub p q):=⟨λk=>Ub.mk λh=>(f h).1 (k ⟨h⟩)⟩
theorem Wal{p a:SlH->Prop}(f:∀v,Wk (a v) (p v)):Wk (∀v,a v) (RB p):=⟨λk=>RB.mk λv=>(f v).1 (k v)⟩
theorem Wla{x y:Option Entry}(h:x=y):Wk True (RD x y):=⟨λ_=>RD.mk h⟩
def Wnp(h:SlH->Prop):SlH->Prop:=h
theorem Wlf{p:Prop}:Wk (Lf p) p:=⟨Eq.mp (Le p)⟩
theorem Wsa{q p:Prop}(h:Wk q (LI p)):Wk q (LI p):=h
theorem Wse{q:Prop}{α:Type}{a b:α}(h:Wk q (a=b)):Wk q (a=b):=h
theorem Wsf{q:Prop}(h:Wk q False):Wk q False:=h
theorem Wsl{q:Prop}{a b:Option Entry}(h:Wk q (RD a b)):Wk q (RD a b):=h
theorem Wsk{q:Prop}{k:IntKind}{n:Int}(h:Wk q (AD k n)):Wk q (AD k n):=h
universe u
theorem Wsx{q:Prop}{α:Sort u}{p:α->Prop}(h:Wk q (∃x,p x)):Wk q (∃x,p x):=h
theorem Wsp{q:Prop}{α:Sort u}{p:α->Prop}(h:Wk q (∀x,p x)):Wk q (∀x,p x):=h
theorem WlA{a x:Prop}(f:Wk a x):Wk a (LI x):=⟨λh=>LI.mk (f.1 h)⟩
theorem Vz{p:Prop}(h:p):Wk True p:=⟨λ_=>h⟩
theorem AB{p:Prop}(q:Prop)(a:q)(h:Wk q p:=by
 repeat'(first
  |(with_reducible refine' Was ?hx ?_
    case hx=>first|exact trivial|exact λ_=>trivial)
  |with_reducible refine' Wan ?_ ?_
  |(with_reducible refine' Wbt ?hx ?_
    case hx=>exact(Eq.refl true))
  |(with_reducible refine' Wbf ?hx ?_
    case hx=>exact(Eq.refl false))
  |with_reducible refine' Wbr (λh=> ?_) (λh=> ?_)
  |with_reducible exact Wtr
  |with_reducible refine' Wro ?_
  |with_reducible refine' Wub (λhu=> ?_)
  |with_reducible refine' Wal (λv=> ?_)
  |(with_reducible refine' Wla ?hx
    case hx=>exact rfl)
  |(fail_if_success (with_reducible first|refine' Wsa ?_|refine' Wse ?_|refine' Wsf ?_|refine' Wsx ?_|refine' Wsp ?_|refine' Wsk ?_|refine' Wsl ?_|refine' Wnp ?_)
    conv=>arg 2;whnf))
 all_goals(try with_reducible refine' WlA ?_)
 all_goals(try first|exact Vz trivial|exact Vz (λ_=>trivial))
 all_goals(try((conv=>arg 2;dsimp only);try with_reducible first|exact Wtr|exact Vz rfl))
 all_goals(try exact Wlf)):p:=h.1 a
theorem AJ{p:Prop}(q:Prop)(a:q)(h:Wk q p:=by
 repeat'(first
  |(with_reducible refine' Was ?hx ?_
    case hx=>first|exact trivial|exact λ_=>trivial)
  |with_reducible refine' Wan ?_ ?_
  |(with_reducible refine' Wbt ?hx ?_
    case hx=>exact(Eq.refl true))
  |(with_reducible refine' Wbf ?hx ?_
    case hx=>exact(Eq.refl false))
  |with_reducible refine' Wbr (λh=> ?_) (λh=> ?_)
  |with_reducible exact Wtr
  |with_reducible refine' Wub (λhu=> ?_)
  |with_reducible refine' Wal (λv=> ?_)
  |(with_reducible refine' Wla ?hx
    case hx=>exact rfl)
  |(fail_if_success (with_reducible first|refine' Wsa ?_|refine' Wse ?_|refine' Wsf ?_|refine' Wsx ?_|refine' Wsp ?_|refine' Wsk ?_|refine' Wsl ?_|refine' Wnp ?_)
    conv=>arg 2;whnf))
 all_goals(try with_reducible refine' WlA ?_)
 all_goals(try first|exact Vz trivial|exact Vz (λ_=>trivial))
 all_goals(try((conv=>arg 2;dsimp only);try with_reducible first|exact Wtr|exact Vz rfl))
 all_goals(try exact Wlf)):p:=h.1 a
theorem X0c{p q a:Prop}(f:p->Wk a q):Wk (p->a) (Ub p q):=⟨λk=>Ub.mk λh=>(f h).1 (k h)⟩
theorem X0a{p:Prop}(q:Prop)(a:q)(h:Wk q p:=by
 repeat'(first
  |(with_reducible refine' Was ?hx ?_
    case hx=>first|exact trivial|exact λ_=>trivial)
  |with_reducible refine' Wan ?_ ?_
  |(with_reducible refine' Wbt ?hx ?_
    case hx=>exact(Eq.refl true))
  |(with_reducible refine' Wbf ?hx ?_
    case hx=>exact(Eq.refl false))
  |with_reducible refine' Wbr (λh=> ?_) (λh=> ?_)
  |with_reducible exact Wtr
  |with_reducible refine' Wro ?_
  |with_reducible refine' X0c (λh=> ?_)
  |with_reducible refine' Wal (λv=> ?_)
  |(with_reducible refine' Wla ?hx
    case hx=>exact rfl)
  |(fail_if_success (with_reducible first|refine' Wsa ?_|refine' Wse ?_|refine' Wsf ?_|refine' Wsx ?_|refine' Wsp ?_|refine' Wsk ?_|refine' Wsl ?_|refine' Wnp ?_)
    conv=>arg 2;whnf))
 all_goals(try with_reducible refine' WlA ?_)
 all_goals(try first|exact Vz trivial|exact Vz (λ_=>trivial))
 all_goals(try((conv=>arg 2;dsimp only);try with_reducible first|exact Wtr|exact Vz rfl))
 all_goals(try exact Wlf)):p:=h.1 a
theorem X0b{p:Prop}(q:Prop)(a:q)(h:Wk q p:=by
 repeat'(first
  |(with_reducible refine' Was ?hx ?_
    case hx=>first|exact trivial|exact λ_=>trivial)
  |with_reducible refine' Wan ?_ ?_
  |(with_reducible refine' Wbt ?hx ?_
    case hx=>exact(Eq.refl true))
  |(with_reducible refine' Wbf ?hx ?_
    case hx=>exact(Eq.refl false))
  |with_reducible refine' Wbr (λh=> ?_) (λh=> ?_)
  |with_reducible exact Wtr
  |with_reducible refine' X0c (λh=> ?_)
  |with_reducible refine' Wal (λv=> ?_)
  |(with_reducible refine' Wla ?hx
    case hx=>exact rfl)
  |(fail_if_success (with_reducible first|refine' Wsa ?_|refine' Wse ?_|refine' Wsf ?_|refine' Wsx ?_|refine' Wsp ?_|refine' Wsk ?_|refine' Wsl ?_|refine' Wnp ?_)
    conv=>arg 2;whnf))
 all_goals(try with_reducible refine' WlA ?_)
 all_goals(try first|exact Vz trivial|exact Vz (λ_=>trivial))
 all_goals(try((conv=>arg 2;dsimp only);try with_reducible first|exact Wtr|exact Vz rfl))
 all_goals(try exact Wlf)):p:=h.1 a
theorem X0d{p:Prop}(h:p:=by
 refine' X0a _ ?_;(repeat' first|constructor|intro h)<;>refine' Lm ?_
 all_goals first|exact A8|skip):p:=h
theorem X0e{p:Prop}(h:p:=by
 refine' X0a _ ?_;(repeat' first|constructor|intro h)<;>refine' Lm ?_
 all_goals first|exact Az|skip):p:=h
theorem X0f{p:Prop}(h:p:=by
 refine' X0a _ ?_;(repeat' first|constructor|intro h)<;>refine' Lm ?_
 all_goals exact a):p:=h
theorem X0g{p:Prop}(h:p:=by
 refine' X0a _ ?_;(repeat' first|constructor|intro h)<;>refine' Lm ?_
 all_goals rfl):p:=h
theorem X0h{p:Prop}(h:p:=by
 refine' X0a _ ?_;(repeat' first|constructor|intro h)<;>refine' Lm ?_
 all_goals(first|rfl|exact A6)):p:=h
theorem X1{p:Prop}(h:p:=by
 refine' X0a _ ?_;(repeat' first|constructor|intro h)<;>refine' Lm ?_
 all_goals first|exact Az):p:=h
theorem X1a{p:Prop}(h:p:=by
 refine' X0a _ ?_;(repeat' first|constructor|intro h)<;>refine' Lm ?_
 all_goals simp):p:=h
theorem X1b{p:Prop}(h:p:=by
 refine' X0a _ ?_;(repeat' first|constructor|intro h)<;>refine' Lm ?_
 all_goals(try simp only[JN,CE]at*)
 all_goals(first
  |exact Bb
  |skip)):p:=h
theorem X1c{p:Prop}(h:p:=by
 refine' X0a _ ?_;(repeat' first|constructor|intro h)<;>refine' Lm ?_
 all_goals(first
  |exact Ad
  |exact Bc
  |omega
  |skip)):p:=h
theorem X1d{p:Prop}(h:p:=by
 refine' X0a _ ?_;(repeat' first|constructor|intro h)<;>refine' Lm ?_
 all_goals first|exact A2|exact Af|skip):p:=h
theorem X1e{p:Prop}(h:p:=by
 refine' X0a _ ?_;(repeat' first|constructor|intro h)<;>refine' Lm ?_
 all_goals first|exact A2|skip):p:=h
theorem X1f{p:Prop}(h:p:=by
 refine' X0a _ ?_;(repeat' first|constructor|intro h)<;>refine' Lm ?_
 all_goals first|exact Bw|skip):p:=h
theorem X1g{p:Prop}(h:p:=by
 refine' X0a _ ?_;(repeat' first|constructor|intro h)<;>refine' Lm ?_
 all_goals first|exact An|skip):p:=h
theorem X1h{p:Prop}(h:p:=by
 refine' X0a _ ?_;(repeat' first|constructor|intro h)<;>refine' Lm ?_
 all_goals first|exact By|skip):p:=h
theorem X2{p:Prop}(h:p:=by
 refine' X0a _ ?_;(repeat' first|constructor|intro h)<;>refine' Lm ?_
 all_goals first|exact Ad|exact(N1 _).symm|skip):p:=h
theorem X2a{p:Prop}(h:p:=by
 refine' X0b _ ?_;(repeat' first|constructor|intro h)<;>refine' Lm ?_
 all_goals first|exact A2|exact A5|omega|exact f7c (by simp[AA,Th,SV.lf,HN])|skip):p:=h
theorem X2b{p:Prop}(h:p:=by
 refine' X0a _ ?_;(repeat' first|constructor|intro h)<;>refine' Lm ?_
 all_goals(first
  |rfl
  |exact⟨λi e=>match i,e with
   |0,_=>rfl
   |1,_=>rfl,Dz⟩
  |skip)):p:=h
theorem X2c{p:Prop}(h:p:=by
 refine' X0a _ ?_;(repeat' first|constructor|intro h)<;>refine' Lm ?_
 all_goals(first
  |exact g
  |rfl
  |skip)):p:=h
theorem X2d{p:Prop}(h:p:=by
 refine' X0b _ ?_;(repeat' first|constructor|intro h)<;>refine' Lm ?_
 all_goals first|exact Ba|skip):p:=h
theorem X2e{p:Prop}(h:p:=by
 refine' X0b _ ?_;(repeat' first|constructor|intro h)<;>refine' Lm ?_
 all_goals first|exact As|skip):p:=h
theorem X2f{p:Prop}(h:p:=by
 refine' X0b _ ?_;(repeat' first|constructor|intro h)<;>refine' Lm ?_
 all_goals(try simp only[q,t,u,K0])
 all_goals first|rfl|omega|exact e|exact A5|skip):p:=h
theorem X2g{p:Prop}(h:p:=by
 refine' X0b _ ?_;(repeat' first|constructor|intro h)<;>refine' Lm ?_
 all_goals(try simp only[K0,DU])
 all_goals first|exact Ab|skip):p:=h
theorem X2h{p:Prop}(h:p:=by
 refine' X0b _ ?_;(repeat' first|constructor|intro h)<;>refine' Lm ?_
 all_goals(try simp only[Ir,Is,DU,M]at*)
 all_goals(try first
  |exact A4
  |(intro _ _;left;rw[<-kE]))):p:=h
theorem X3a{p:Prop}(h:p:=by
 refine' X0b _ ?_;(repeat' first|constructor|intro h)<;>refine' Lm ?_
 all_goals(try simp only[K0])
 all_goals first|exact Bv|skip):p:=h
theorem X3b{p:Prop}(h:p:=by
 refine' X0b _ ?_;(repeat' first|constructor|intro h)<;>refine' Lm ?_
 all_goals(try simp only[K0,t,o,k1.1])
 all_goals first|exact Bv|skip):p:=h
theorem X3c{p:Prop}(h:p:=by
 refine' X0b _ ?_;(repeat' first|constructor|intro h)<;>refine' Lm ?_
 all_goals(try simp only[K0,t,v,o,k1.1])
 all_goals first|exact Bv|skip):p:=h
theorem X3d{p:Prop}(h:p:=by
 refine' X0b _ ?_;(repeat' first|constructor|intro h)<;>refine' Lm ?_
 all_goals first
  |exact As
  |exact Aj
  |skip):p:=h
section
open Go.RowKit
theorem c5t{P:Program}{w:World}{n:String}{g:Nat}{cs:Array Value}(a:P.globalNamed n=some g)(h:w.var? P n=some cs):g<w.heap.size:=by
 simp only[World.var?,a,M7]at h;split at h
 .rename_i b;exact(K7.1 b).1
 .cases h
theorem c64:laidOutB Tryz.prog=true:=E1
theorem b64{W:World}{A:Nat->Prop}(j:∀b,¬A b){n:String}{g g0:Nat}{t:TypeId}{cs:Array Value}{fuel:Nat}{d:DataW Unit}{p:List MemPlace}{sz m:Nat}{f:Nat->List SV}
 (h:Tryz.prog.globalNamed n=some g) (l:(Tryz.prog.globals[g]?).map (·.type)=some t) (i:W.var? Tryz.prog n=some cs) (o:DataW.trod (λ_=>()) Tryz.prog W 0 (λ_=>true) false fuel t cs.toList=some (d,p))
 (q:Tryz.prog.globalNamed n=some g0) (a:(Tryz.prog.globals[g0]?).map (λc=>d8q Tryz.prog 10 c.type&&isVar Tryz.prog c.type)=some true) (r:Wi d=true) (s:0<m) (u:d3i sz m f (XN d)=true):
 (SV.rel sz m f 0 0).pure=true/\D W A BT (.rel sz m f 0 0) (.pointer (some ⟨g0,0,none⟩)):=by
 obtain rfl:=Km (q.symm.trans h);obtain⟨c,v,rfl⟩:=Jq.1 l;rw[v]at a;simp only[Ks,Ka,Ke]at a;have e:=d3c c64 fuel c.type cs.toList (d,p) 10 a.1 a.2 o r;refine c3b (cs:=cs.toList) s (j g0) (c5t h i) (λk=> ?_) (by rw[e];exact u);rw[World.var?_cell h i k];simp
open Classical in
noncomputable def Pv(F:Fam):List SV->Option (Prop×SV):=λzs=>if∃i,F.pre i/\zs=F.args i then some (True,.bool true)else none
theorem d5w{f:FuncId}{F:Fam}(this:PS f (Pv F))(i:F.ι)(c:F.pre i)
 {w:World} {vals:List Value} (d:∀g t,QA g=some t->t.pure=true/\D w (λ_=>False) BT t (.pointer (some ⟨g,0,none⟩))) (j:DL w (λ_=>False) BT (F.args i) vals):
 Calls Tryz.prog f vals.toArray w λe a=>e=.returned (.bool true)/\Fr w.heap.size (λ_=>False) w a:=by
 refine(this.2 (λ_=>False) w (F.args i) vals True (.bool true) (λb h=>h.elim) d j ?_ trivial).mono ?_
 .unfold Pv;rw[Ji ⟨i,c,rfl⟩]
 .rintro e a ⟨v,rfl,k,l⟩;cases k;exact⟨rfl,l⟩
theorem top{f:FuncId}{fn:Func}(c:Cs)(hc:c.OK)(F:Fam)(I:F.ι->Nat->Option Inv)(ft:∀i,F.res i=.bool true)(bj:∀i,BK (F.args i) (F.args i))(bb:∀i,(F.args i).length<=fn.ntmps)
 (hf:Tryz.prog.funcs[f]?=some fn) (hb:fn.body.isSome=true) (hn:(fn.name== "runtime.NumGoroutine")=false) (fw:Jo c.c2 (QD c.gr) (fn.body.getD .skip)=true)
 (H:∀i,F.pre i->FC (EX c.l c.x c.h c.fz c.c2 c.gr 0 (λ_=>true) (λ_=>none) c.fs) fn.ntmps (I i) (fn.body.getD .skip) ⟨MM (EX c.l c.x c.h c.fz c.c2 c.gr 0 (λ_=>true) (λ_=>none) c.fs) fn (F.res i),λ_ _=>False,MM (EX c.l c.x c.h c.fz c.c2 c.gr 0 (λ_=>true) (λ_=>none) c.fs) fn (F.res i)⟩ ⟨MO 0 (F.args i),[]⟩) (i:F.ι) (hp:F.pre i)
 {w:World} {vals:List Value} (hg:∀g t,QA g=some t->t.pure=true/\D w (λ_=>False) BT t (.pointer (some ⟨g,0,none⟩))) (hD:DL w (λ_=>False) BT (F.args i) vals):
 Calls Tryz.prog f vals.toArray w λe w'=>e=.returned (.bool true)/\Fr w.heap.size (λ_=>False) w w':=by
 have:=LV c hc F I (Pv F) (λzs p s hk hp=>by
  unfold Pv at hk;split at hk
  .rename_i X9;obtain⟨i,hi,rfl⟩:=X9;cases hk;exact⟨i,bj i,hi,(ft i).symm⟩
  .cases hk) bb hf hb hn fw H
 exact d5w this i hp hg hD
theorem b5e{w w':World}(h:Fr w.heap.size (λ_=>False) w w'):Below w.heap.size w w':=⟨h.os,h.tape,h.output,h.size,λk a=>h.block k a (λh=>h)⟩
theorem b3e{H:Type}{enc:TypeId×Value->H}{P:Program}(e:laidOutB P=true){W f:World}(g:Below W.heap.size W f):∀{ts:List TypeId} {vs:List Value} {a:List (DataW H)} {ps:List MemPlace},
 (ts.all λt=>P.readableRec t&&decide (t<P.types.size))=true->DataW.TrodAll enc P W 0 (λ_=>true) true ts vs a ps->(∀x∈ps,x.block<W.heap.size)->DataW.TrodAll enc P f 0 (λb=>decide (b<W.heap.size)) true ts vs a ps
 | [],vs,a,ps,_,h,_=>by obtain⟨rfl,rfl,rfl⟩:=Go.ChangeShapes.trodAll_nil h;rfl
 |t::ts,vs,a,ps,c,h,i=>by obtain⟨v,vs',d,ds',p,q,rfl,rfl,rfl,j,k⟩:=Go.ChangeShapes.trodAll_cons h;simp only[List.all_cons,J3]at c;exact⟨p,q,Below.trod e c.1.1 c.1.2 j g (λx hx=>i x Ej),b3e e g (by simpa using c.2) k (λx hx=>i x Ej),rfl⟩
theorem c9s{H:Type}{enc:TypeId×Value->H}{P:Program}(l:laidOutB P=true){a:Func}{s:ChangeSpec}{tb:TypeId}{W f:World}{args:Array Value}{b g:List (DataW H)}{before:List MemPlace}(i:s.vars=[])(m:a.resultTypes= #[tb])(c:P.underlying tb=some .bool)
 (d:s.fn H (b++g)={results:=[.lit (.bool true)],args:=b}) (n:(a.params.toList.all λt=>P.readableRec t&&decide (t<P.types.size))=true) (e:DataW.Whole enc P a.params.toList s.vars false W args.toList b g before) (j:Below W.heap.size W f):
 s.post enc P a false true false false W args (.bool true) f:=by
 have o:=e;obtain⟨p,q,r,k,rfl,hfz,mt⟩:=o;rw[i]at k;obtain⟨rfl,rfl⟩:=Go.ChangeShapes.trodVars_none k;refine⟨b,[],p++[],[],p,[],e,?_,?_,?_,j.frame _,λh=>E9⟩
 .rw[d,m];exact Go.ChangeShapes.trodAll_mk1 (shut_bool c true)
 .rw[d];refine b3e l j n r (λx hx=> ?_);have:=e.lt x Ej;simpa using this
 .rw[d,i];rfl
end
end Go.Proofs.YtlffhjfkaepimaaGreatDoor.V
