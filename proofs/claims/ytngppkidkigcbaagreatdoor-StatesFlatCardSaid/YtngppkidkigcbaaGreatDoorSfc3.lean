/-
  Parts of the proof: M2 S1 S2 R2. Conditions: none.
-/
import Derived.Test.YtngppkidkigcbaaGreatDoorSfc2
import Derived.WideKeyRuns
import Derived.Test.YtngppkidkigcbaaGreatDoorRows
import Derived.Test.YtngppkidkigcbaaGreatDoorChecked
set_option maxRecDepth 100000
set_option maxHeartbeats 40000000
namespace Go.Proofs.YtngppkidkigcbaaGreatDoor.V
open Go
def PL(P:Program):Nat->TypeId->Nat->Bool
 |0,_,_=>false
 |d+1,T,n=>match P.underlying T with
  |some .bool|some (.int _)|some .string=>decide (n=1)&&decide (CH P T=some 1)
  |some (.struct a)=>a.toList.all λf=>match CH P f.type with
   |some k=>decide (f.offset+k<=n)&&PL P d f.type k
   |none=>false
  |some (.array len e)=>match CH P e with
   |some k=>decide (n=len*k)&&PL P d e k
   |none=>false
  |_=>false
theorem c72{P:Program}{d n:Nat}{T:TypeId}(h:PL P d T n=true):∃a,P.underlying T=some a/\(GT a=false->n=1):=by
 cases d with
 |zero=>simp[PL]at h
 |succ d=>
  unfold PL at h;split at h
  .exact Ck
  .exact Ck
  .exact Ck
  .rename_i hu;exact⟨_,hu,λh=>Fn⟩
  .rename_i hu;exact⟨_,hu,λh=>Fn⟩
  .cases h
theorem run_ck{P:Program}(em:Bool):∀(d:Nat) (T:TypeId) (n:Nat) (us:List Value) (m:Nat) (w:World),PL P d T n=true->us.length=n->(∀u∈us,∃k i,u=.int k i)->(Instr.checkKey em (d+m) T (GM P T us)).run P w=.ok () w:=by
 intro d;induction d with
 |zero=>intro T n us m w h;simp[PL]at h
 |succ d ih=>
  intro T n us m w h hl hi;rw[show d+1+m=(d+m)+1 from Dj];have flat:∀dd,P.underlying T=some dd->GT dd=false->(match dd with|.bool|.int _|.string=>True|_=>False)->us.length=1->(Instr.checkKey em (d+m+1) T (GM P T us)).run P w=.ok () w:=by
   intro dd hu ha hd h1;match us,h1 with
   | [u],_=>
     obtain⟨k,i,rfl⟩:=hi u Dm;have:GM P T [Value.int k i]=.int k i:=by simp[GM,HT,hu,ha]
     rw[this];cases dd<;>simp at hd<;>simp[Instr.checkKey,Jh hu]
  unfold PL at h;split at h
  .exact Cm
  .exact Cm
  .exact Cm
  .rename_i fs hu;have hv:GM P T us=.agg us.toArray:=by simp[GM,HT,hu,GT]
   rw[hv,Instr.checkKey];simp only[Ic,Jh hu];rw[<-Array.forIn_toList];have bw:=Iq.1 h;clear h;generalize fs.toList=L at bw;induction L with
   |nil=>simp
   |cons f L ihL=>
    have hf:=bw f Dm;split at hf;rotate_left
    .cases hf
    rename_i k hk;simp only[I3]at hf;obtain⟨ho,hc⟩:=hf;simp only[CH,In]at hk;obtain⟨inf,bq,rfl⟩:=hk;obtain⟨dd,W1,h1⟩:=c72 hc;have p1:=SY (w:=w) W1 bq us f.offset Dj h1;have p2:=ih f.type inf.size ((us.drop f.offset).take inf.size) m w hc Du (λu hu=>hi u (List.mem_of_mem_drop (List.mem_of_mem_take hu)));have rest:=ihL (λx hx=>bw x E4);by_cases hn:f.name= "_"
    .simp only[List.forIn_cons,Hz,hn,ne_eq,not_true_eq_false,if_false];exact rest
    .simp only[List.forIn_cons,Hz,hn,ne_eq,not_false_eq_true,Jv,p1,p2];exact rest
  .rename_i len e hu;have hv:GM P T us=.agg us.toArray:=by simp[GM,HT,hu,GT]
   split at h;rotate_left
   .cases h
   rename_i k hk;simp only[I3]at h;obtain⟨hn,hc⟩:=h;simp only[CH,In]at hk;obtain⟨inf,bq,rfl⟩:=hk;obtain⟨dd,W1,h1⟩:=c72 hc;rw[hv,Instr.checkKey];simp only[Ic,Jh hu];simp only[Std.Legacy.Range.forIn_eq_forIn_range',Std.Legacy.Range.size,Nat.sub_zero,Nat.add_one_sub_one,Nat.div_one];have bw:∀i∈List.range' 0 len,i<len:=λi hi=>by simp[List.mem_range']at hi;omega
   generalize List.range' 0 len=is at bw;induction is with
   |nil=>simp
   |cons j is ihj=>
    have hj:=bw j Dm;have m8:j*inf.size+inf.size<=len*inf.size:=by rw[<-Ln];exact Js _ hj
    have p1:=SY (w:=w) W1 bq us (j*inf.size) Dj h1;have p2:=ih e inf.size ((us.drop (j*inf.size)).take inf.size) m w hc Du (λu hu=>hi u (List.mem_of_mem_drop (List.mem_of_mem_take hu)));simp only[List.forIn_cons,Hz,GX (w:=w) bq,p1,p2];exact ihj (λx hx=>bw x E4)
  .cases h
def NT:List IntKind->List Int->List SV
 |k::a,n::b=>.int k n::NT a b
 |_,_=>[]
theorem b01:∀{ks:List IntKind} {q:List Int},q.length=ks.length->(GY ks q).length=ks.length
 | [],[],_=>rfl
 |_::ks,_::q,h=>by simp[GY,b01 (ks:=ks) (q:=q) Dr]
theorem b0e:∀{ks:List IntKind} {q:List Int},q.length=ks.length->(NT ks q).length=ks.length
 | [],[],_=>rfl
 |_::ks,_::q,h=>by simp[NT,b0e (ks:=ks) (q:=q) Dr]
theorem b8s{w:World}{H:Nat->Prop}{μ:Mu}:∀{ks:List IntKind} {q:List Int} (i:Nat) (s:SV) (v:Value),(NT ks q)[i]?=some s->(GY ks q)[i]?=some v->D w H μ s v
 |k::ks,n::q,i,s,v,hs,a=>by
  match i with
  |0=>simp[NT]at hs;simp[GY]at a;subst hs a;exact .int
  |i+1=>exact b8s i s v (by simpa[NT]using hs) (by simpa[GY]using a)
 | [],_,i,s,v,hs,_=>by simp[NT]at hs
 |_::_,[],i,s,v,hs,_=>by simp[NT]at hs
theorem b1w:∀{ks:List IntKind} {q c:List Int},q.length=ks.length->c.length=ks.length->GY ks q=GY ks c->q=c
 | [],[],[],_,_,_=>rfl
 |_::ks,a::q,b::c,h,d,e=>by simp only[GY,List.cons.injEq,Value.int.injEq,Mn]at e;rw[e.1,b1w (ks:=ks) Dr (by simpa using d) e.2]
theorem b0z:∀{ks:List IntKind} {q:List Int},∀u∈GY ks q,∃k i,u=.int k i
 |k::ks,n::q,u,a=>by
  simp only[GY,Iv]at a;rcases a with rfl|a
  .exact C3
  .exact b0z (ks:=ks) u a
 | [],_,u,a=>by simp[GY]at a
 |_::_,[],u,a=>by simp[GY]at a
theorem b2m(m:Nat):∀{l:List Value},(∀u∈l,∃k i,u=.int k i)->((l.zip l).all λ(x,y)=>Instr.sameBits m x y)=true
 | [],_=>rfl
 |u::l,h=>by obtain⟨k,i,rfl⟩:=h u Dm;simp only[List.zip_cons_cons,List.all_cons,Jc];refine⟨?_,b2m m (λu a=>h u (by simp[a]))⟩;cases m<;>simp[Instr.sameBits]
theorem b4e {E : Env} (I : EnvOK E) {key : TypeId} {ks : List IntKind} (l : (match E.P.underlying key with | some (.array _ _) | some (.struct _) => true | _ => false) = true)
    (J : ∀ i u : List Int, i.length = ks.length → u.length = ks.length → Ll E 8 key (NT ks i) (NT ks u) = some (decide (i = u))) (v : PL E.P 8 key ks.length = true) : KLaw E.P key (.ints ks) := by
  have z : ∀ A : List Value, GM E.P key A = .agg A.toArray := λA => by
    unfold GM HT
    cases hu : E.P.underlying key with
    | none => rw [hu] at l; cases l
    | some d => cases d <;> rw [hu] at l <;> first | (cases l; done) | simp [GT]
  refine ⟨λw em q c => ?_, λw q f c s => ?_, λw q c => ?_, λq b c k e => ?_⟩
  · have := run_ck (P := E.P) em 8 key ks.length (GY ks q) 9992 w v (b01 c) b0z
    rw [z] at this
    exact this
  · rw [run_findKey_eq w l]
    have n : ∀ (f : List MapEntry) (g : Nat), (∀ e ∈ f, ∃ b, KA (.ints ks) b ∧ e.key = kv (.ints ks) b) →
        ∃ r, (Instr.findAsking key (kv (.ints ks) q) f g).run E.P w = .ok r w ∧ ((r = none ∧ ∀ e ∈ f, e.key ≠ kv (.ints ks) q) ∨ ∃ (j : Nat) (e : MapEntry), r = some (g + j, e.val) ∧ f[j]? = some e ∧ e.key = kv (.ints ks) q) := by
      intro f
      induction f with
      | nil => intro g _; exact ⟨none, by simp [Instr.findAsking], .inl ⟨rfl, λe K => by simp at K⟩⟩
      | cons e f L =>
        intro g s
        obtain ⟨b, k, o⟩ := s e Dm
        have F : (Op.equal key (kv (.ints ks) q) e.key).run E.P w = .ok (decide (q = b)) w := by
          have := (b78 (w := w) (H := λ_ => False) (μ := BM) I 8 key (NT ks q) (NT ks b) _ (GY ks q) (GY ks b) 9992 (J q b c k) ((b01 c).trans (b0e c).symm) ((b01 k).trans (b0e k).symm) b8s b8s).2
          rw [z, z] at this
          rw [o]
          exact this
        by_cases B : q = b
        · subst B
          refine ⟨some (g + 0, e.val), ?_, .inr ⟨0, e, rfl, rfl, o⟩⟩
          simp [Instr.findAsking, F]
        · obtain ⟨r, C, hx⟩ := L (g + 1) (λx hx => s x E4)
          refine ⟨r, by simp [Instr.findAsking, F, B, C], ?_⟩
          rcases hx with ⟨rfl, M⟩ | ⟨j, t, rfl, hj, N⟩
          · refine .inl ⟨rfl, λx hx => ?_⟩
            rcases Iv.1 hx with rfl | hx
            · intro G
              rw [o] at G
              have : (GY ks b).toArray = (GY ks q).toArray := by simpa [kv] using G
              exact B (b1w c k (by simpa using this.symm))
            · exact M x hx
          · exact .inr ⟨j + 1, t, by rw [show g + 1 + j = g + (j + 1) from Dj], E8, N⟩
    obtain ⟨r, C, hx⟩ := n f 0 s
    refine ⟨r, C, ?_⟩
    rcases hx with h | ⟨j, e, rfl, hj, o⟩
    · exact .inl h
    · exact .inr ⟨j, e, by rw [Ki], hj, o⟩
  · have : Instr.sameBits 10000 (kv (.ints ks) q) (kv (.ints ks) q) = true := by
      have O : ∀ (m : Nat) (a : Array Value), Instr.sameBits (m + 1) (.agg a) (.agg a) = ((a.size == a.size) && (a.toList.zip a.toList).all λ(x, y) => Instr.sameBits m x y) := λm a => rfl
      rw [kv, show (10000 : Nat) = 9999 + 1 from rfl, O, BEq.rfl, Bool.true_and]
      exact b2m 9999 b0z
    rw [Instr.keyThatStays, Ih this, Sem.run_pure]
  · have t : (Value.agg (GY ks q).toArray) = .agg (GY ks b).toArray := e
    rw [Value.agg.injEq] at t
    exact b1w c k (by simpa using t)
def stL:List TypeId:=[
 23,
 104,
 47,
 269,
 65,
 75,
 28,
 120,
 111,
 86,
  23]
def stT:TypeId->Bool:=λt=>stL.contains t
def tb(l:List Int)(i:Nat):Int:=l.getD i 0
def Uv(i:Nat):List SV:=[.int .i64 (tb [0,1,0,-1] i),.int .i64 (tb [-1,0,1,0] i),.int .u8 (tb [2,1,2,1] i),.int .i64 (tb [0,1,1,0] i),
 .int .i64 (tb [0,1,0,-1] i),.int .i64 (tb [-1,0,1,0] i),.int .u8 (tb [2,3,0,1] i),.int .i64 (tb [0,0,0,0] i),.int .i64 (tb [0,0,0,0] i),.int .u8 (tb [1,0,3,2] i),.int .i64 (tb [0,0,0,0] i),.int .i64 (tb [0,0,0,0] i),.int .u8 (tb [3,2,1,0] i),
 .int .i64 (tb [0,2,2,0] i),.int .i64 (tb [0,2,2,0] i),.int .i64 (tb [2,2,0,0] i),.int .i64 (tb [0,0,2,2] i)]
def Om(i:Nat):List SV:=[.int .i64 (tb [1,0,-1,0,-1,0,1,0] i),.int .i64 (tb [0,-1,0,1,0,-1,0,1] i),.int .i64 (tb [0,1,0,-1,0,-1,0,1] i),.int .i64 (tb [1,0,-1,0,1,0,-1,0] i)]
def Oj:Nat->Option SV
 |0=>some (.rel 4 8 Om 0 0)
 |1=>some (.rel 17 4 Uv 0 0)
 |_=>none
def ktT:TypeId->Option KT
 |102=>some (.ints [.i64,.u8])
 |233=>some (.ints [.i64,.u8])
 |149=>some (.ints [.i64,.i64,.u8])
 |198=>some (.ints [.i64,.i64,.u8,.i64,.i64,.u8])
 |_=>none
abbrev AK:=List SV->Option (Prop×SV)
def Tw(l:List (FuncId×AK)):FuncId->Option AK:=λf=>match l with
 | []=>none
 |(g,k)::r=>if g==f then some k else Tw r f
def tabX(l:List (FuncId×JT)):FuncId->Option JT:=λf=>match l with
 | []=>none
 |(g,k)::r=>if g==f then some k else tabX r f
def tabH(l:List (FuncId×HK)):FuncId->Option HK:=λf=>match l with
 | []=>none
 |(g,k)::r=>if g==f then some k else tabH r f
def d82(l:List (FuncId×AK))(f:FuncId):Bool:=match l with
 | []=>false
 |(g,_)::r=>if g==f then true else d82 r f
noncomputable def EX(l:List (FuncId×AK))(x:List (FuncId×JT))(h:List (FuncId×HK))(fz:Nat->Bool)(c2:Bool)(gr:Nat->List Ghost)(na:Nat)(ax:Nat->Bool)(av:Mu)(fs:List (FuncId×AK)):Env:={P:=Tryz.prog,C:=Tw (fs++l),glob:=Oj,ng:=0,st:=stT,X:=tabX x,fz:=fz,na:=na,ax:=ax,av:=av,kt:=ktT,Hc:=tabH h,c2:=c2,gr:=gr,fs:=λf=>d82 fs f}
noncomputable abbrev E0(l:List (FuncId×AK)):Env:=EX l [] [] (λ_=>false) false (λ_=>[]) 0 (λ_=>true) (λ_=>none) []
abbrev PS(f:FuncId)(k:AK):Prop:=c6f Tryz.prog Oj f k
abbrev PF(f:FuncId)(k:AK):Prop:=PS f k/\c65 Tryz.prog Oj f k
abbrev ES(f:FuncId)(e:JT):Prop:=f23 Tryz.prog Oj f e
abbrev HS(f:FuncId)(h:HK):Prop:=d2b Tryz.prog Oj f h
theorem b55{l:List (FuncId×AK)}{x:List (FuncId×JT)}{h:List (FuncId×HK)}{fz:Nat->Bool}{c2:Bool}{gr:Nat->List Ghost}{na:Nat}{ax:Nat->Bool}{av:Mu}{fs:List (FuncId×AK)}(d:∀x∈l,PS x.1 x.2)(hx:∀y∈x,ES y.1 y.2)(g:∀y∈h,HS y.1 y.2)(i:∀x∈fs,PF x.1 x.2):FU (EX l x h fz c2 gr na ax av fs):=by
 refine⟨?_,?_,?_⟩
 .intro f k hk;have a:∀(l:List (FuncId×AK)),(∀x∈l,PS x.1 x.2)->Tw l f=some k->PS f k:=by
   intro l;induction l with
   |nil=>intro _ h;cases h
   |cons x l ih=>
    intro h hk;simp only[Tw]at hk;split at hk
    .rename_i e;cases hk;have:=h x Dm;rw[Kx.1 e]at this;exact this
    .exact Cn
  have b:∀(fs:List (FuncId×AK)),(∀x∈fs,PF x.1 x.2)->Tw (fs++l) f=some k->PS f k/\(d82 fs f=true->c65 Tryz.prog Oj f k):=by
   intro fs;induction fs with
   |nil=>intro _ h;exact⟨a l d h,λh=>Dw⟩
   |cons x fs ih=>
    intro h hk;simp only[L8,Tw]at hk;split at hk
    .rename_i e;cases hk;have:=h x Dm;rw[Kx.1 e]at this;exact⟨this.1,λ_=>this.2⟩
    .rename_i e;obtain⟨j,m⟩:=ih (λy hy=>h y Ex) hk;refine⟨j,λc=>m ?_⟩;simp only[d82]at c;rwa[Ii e]at c
  exact b fs i hk
 .intro f k hk;have a:∀(l:List (FuncId×JT)),(∀x∈l,ES x.1 x.2)->tabX l f=some k->ES f k:=by
   intro l;induction l with
   |nil=>intro _ h;cases h
   |cons x l ih=>
    intro h hk;simp only[tabX]at hk;split at hk
    .rename_i e;cases hk;have:=h x Dm;rw[Kx.1 e]at this;exact this
    .exact Cn
  exact a x hx hk
 .intro f k hk;have a:∀(l:List (FuncId×HK)),(∀x∈l,HS x.1 x.2)->tabH l f=some k->HS f k:=by
   intro l;induction l with
   |nil=>intro _ h;cases h
   |cons x l ih=>
    intro h hk;simp only[tabH]at hk;split at hk
    .rename_i e;cases hk;have:=h x Dm;rw[Kx.1 e]at this;exact this
    .exact Cn
  exact a h g hk
def stOK(P:Program)(T:TypeId):Bool:= !P.stoodInHeld T&& !P.eqGuardType P.depth T&&match P.underlying T with
 |some (.struct fs)=>fs.toList.all λf=>f.name != "_"
 |_=>false
theorem d3i{P:Program}{T:TypeId}(h:stOK P T=true):P.stoodInHeld T=false/\P.eqGuardType P.depth T=false/\∃fs,P.underlying T=some (.struct fs)/\∀f∈fs.toList,f.name≠ "_" :=by
 unfold stOK at h;simp only[Id]at h;obtain⟨⟨h1,h2⟩,h3⟩:=h;refine⟨h1,h2,?_⟩;split at h3
 .rename_i fs kx;refine⟨fs,kx,λf hf=> ?_⟩;have:=Iq.1 h3 f hf;simpa using this
 .cases h3
theorem f5u:(stL.all λT=>stOK Tryz.prog T)=true:=Dk
theorem d2z:∀T,stT T=true->Tryz.prog.stoodInHeld T=false/\Tryz.prog.eqGuardType Tryz.prog.depth T=false/\∃fs,Tryz.prog.underlying T=some (.struct fs)/\∀f∈fs.toList,f.name≠ "_" :=by intro T hT;exact d3i (Iq.1 f5u T (List.contains_iff_mem.1 hT))
noncomputable def EB:Env:={P:=Tryz.prog,C:=λ_=>none,glob:=λ_=>none,ng:=0,st:=stT}
theorem f2j:EnvOK EB:=⟨d2z,λT K h=>Dw⟩
theorem dec2(a b a' c:Int):(decide (a=a')&&(decide (b=c)&&true))=decide ([a,b]=[a',c]):=by rw[Ku];simp
theorem dec3(a b c a' d e:Int):(decide (a=a')&&(decide (b=d)&&(decide (c=e)&&true)))=decide ([a,b,c]=[a',d,e]):=by rw[Ku];simp
theorem dec6(a b c d e f a' g h i j k:Int):((decide (a=a')&&(decide (b=g)&&(decide (c=h)&&true)))&&((decide (d=i)&&(decide (e=j)&&(decide (f=k)&&true)))&&true))=decide ([a,b,c,d,e,f]=[a',g,h,i,j,k]):=by rw[Ku];simp[and_assoc]
theorem f5e(a b a' c:Int):Ll EB 8 104 [.int .i64 a,.int .u8 b] [.int .i64 a',.int .u8 c]=some (decide (a=a')&&(decide (b=c)&&true)):=Dk
theorem c56:KLaw Tryz.prog 104 (.ints [.i64,.u8]):=b4e f2j Dk (λc d e f=>by
 match c,d,e,f with
 | [a,b],[g,i],_,_=>rw[<-dec2];exact f5e a b g i) Dk
theorem f7h(a b c a' d e:Int):Ll EB 8 47 [.int .i64 a,.int .i64 b,.int .u8 c] [.int .i64 a',.int .i64 d,.int .u8 e]=some (decide (a=a')&&(decide (b=d)&&(decide (c=e)&&true))):=Dk
theorem d94:KLaw Tryz.prog 47 (.ints [.i64,.i64,.u8]):=b4e f2j Dk (λd e f g=>by
 match d,e,f,g with
 | [a,b,c],[i,j,k],_,_=>rw[<-dec3];exact f7h a b c i j k) Dk
theorem d87(a b c d e f a' g i j k l:Int):Ll EB 8 205 [.int .i64 a,.int .i64 b,.int .u8 c,.int .i64 d,.int .i64 e,.int .u8 f] [.int .i64 a',.int .i64 g,.int .u8 i,.int .i64 j,.int .i64 k,.int .u8 l]=some ((decide (a=a')&&(decide (b=g)&&(decide (c=i)&&true)))&&((decide (d=j)&&(decide (e=k)&&(decide (f=l)&&true)))&&true)):=Dk
theorem d1q:KLaw Tryz.prog 205 (.ints [.i64,.i64,.u8,.i64,.i64,.u8]):=b4e f2j Dk (λg i j k=>by
 match g,i,j,k with
 | [a,b,c,d,e,f],[l,m,n,o,q,r],_,_=>rw[<-dec6];exact d87 a b c d e f l m n o q r) Dk
theorem f34:∀T K,ktT T=some K->∃a b,Tryz.prog.underlying T=some (.map a b)/\KLaw Tryz.prog a K:=by
 intro T K h;unfold ktT at h;split at h<;>cases h
 .exact⟨_,_,(by kernel_rfl:Tryz.prog.underlying 102=some (.map 104 63)),c56⟩
 .exact⟨_,_,(by kernel_rfl:Tryz.prog.underlying 233=some (.map 104 4)),c56⟩
 .exact⟨_,_,(by kernel_rfl:Tryz.prog.underlying 149=some (.map 47 3)),d94⟩
 .exact⟨_,_,(by kernel_rfl:Tryz.prog.underlying 198=some (.map 205 209)),d1q⟩
theorem f44(l:List (FuncId×AK))(x:List (FuncId×JT))(h:List (FuncId×HK))(fz:Nat->Bool)(c2:Bool)(gr:Nat->List Ghost)(na:Nat)(ax:Nat->Bool)(av:Mu)(fs:List (FuncId×AK)):EnvOK (EX l x h fz c2 gr na ax av fs):=⟨d2z,f34⟩
theorem f40:Tryz.prog.follows .mixedOrders=true:=Dk
structure Cs where
 l:List (FuncId×AK):=[]
 x:List (FuncId×JT):=[]
 h:List (FuncId×HK):=[]
 fz:Nat->Bool:=λ_=>false
 c2:Bool:=false
 gr:Nat->List Ghost:=λ_=>[]
 G:GhX:={}
 fs:List (FuncId×AK):=[]
 fsok:∀x∈fs,PF x.1 x.2:=by simp
def Cs.OK(c:Cs):Prop:=(∀x∈c.l,PS x.1 x.2)/\(∀y∈c.x,ES y.1 y.2)/\∀y∈c.h,HS y.1 y.2
theorem NH{f:FuncId}{fn:Func}(c:Cs)(hc:c.OK)(F:Fam)(I:F.ι->Nat->Option Inv)(k:AK)(hk:Px F k)(bf:∀i,(F.args i).length<=fn.ntmps)
 (hf:Tryz.prog.funcs[f]?=some fn) (hb:fn.body.isSome=true) (hn:(fn.name== "runtime.NumGoroutine")=false) (f7:IE c.c2 (OC c.gr) (fn.body.getD .skip)=true)
 (H:∀i,F.pre i->EE (EX c.l c.x c.h c.fz c.c2 c.gr 0 (λ_=>true) (λ_=>none) c.fs) fn.ntmps (I i) (fn.body.getD .skip) ⟨LX (EX c.l c.x c.h c.fz c.c2 c.gr 0 (λ_=>true) (λ_=>none) c.fs) fn (F.res i),λ_ _=>False,LX (EX c.l c.x c.h c.fz c.c2 c.gr 0 (λ_=>true) (λ_=>none) c.fs) fn (F.res i)⟩ ⟨LB 0 (F.args i),[]⟩):PS f k:=by
 cases qr:fn.body with
 |none=>rw[qr]at hb;cases hb
 |some code=>
  rw[qr]at f7 H;exact verify (EX c.l c.x c.h c.fz c.c2 c.gr 0 (λ_=>true) (λ_=>none) c.fs) rfl rfl rfl (f44 ..) (b55 hc.1 hc.2.1 hc.2.2 c.fsok) f40 hf qr hn F I k hk bf f7 H
theorem conF{f:FuncId}{fn:Func}(c:Cs)(hc:c.OK)(F:Fam)(I:F.ι->Nat->Option Inv)(k:AK)(hk:Px F k)(bf:∀i,(F.args i).length<=fn.ntmps)
 (hf:Tryz.prog.funcs[f]?=some fn) (hb:fn.body.isSome=true) (hn:(fn.name== "runtime.NumGoroutine")=false) (f7:IE c.c2 (OC c.gr) (fn.body.getD .skip)=true)
 (H:∀i,F.pre i->EE (EX c.l c.x c.h c.fz c.c2 c.gr 0 (λ_=>true) (λ_=>none) c.fs) fn.ntmps (I i) (fn.body.getD .skip) ⟨RM (EX c.l c.x c.h c.fz c.c2 c.gr 0 (λ_=>true) (λ_=>none) c.fs) fn (F.res i),λ_ _=>False,RM (EX c.l c.x c.h c.fz c.c2 c.gr 0 (λ_=>true) (λ_=>none) c.fs) fn (F.res i)⟩ ⟨LB 0 (F.args i),[]⟩):PF f k:=by
 cases qr:fn.body with
 |none=>rw[qr]at hb;cases hb
 |some code=>
  rw[qr]at f7 H;exact f3t (EX c.l c.x c.h c.fz c.c2 c.gr 0 (λ_=>true) (λ_=>none) c.fs) rfl rfl rfl (f44 ..) (b55 hc.1 hc.2.1 hc.2.2 c.fsok) f40 hf qr hn F I k hk bf f7 H
theorem con{f:FuncId}{fn:Func}(l:List (FuncId×AK))(hl:∀x∈l,PS x.1 x.2)(F:Fam)(I:F.ι->Nat->Option Inv)(k:AK)(hk:Px F k)(bf:∀i,(F.args i).length<=fn.ntmps)
 (hf:Tryz.prog.funcs[f]?=some fn) (hb:fn.body.isSome=true) (hn:(fn.name== "runtime.NumGoroutine")=false) (f7:IE false (OC λ_=>[]) (fn.body.getD .skip)=true)
 (H:∀i,F.pre i->EE (E0 l) fn.ntmps (I i) (fn.body.getD .skip) ⟨LX (E0 l) fn (F.res i),λ_ _=>False,LX (E0 l) fn (F.res i)⟩ ⟨LB 0 (F.args i),[]⟩):PS f k:=
 NH {l:=l} ⟨hl,Dm,Dm⟩ F I k hk bf hf hb hn f7 H
theorem HB{f:FuncId}{fn:Func}(c:Cs)(hc:c.OK)(F:FamH)(I:F.ι->Nat->Option Inv)(h:HK)(hh:LawH F h)(bf:∀i,(F.args i).length<=fn.ntmps)(gp:∀i,(F.own i).length<=(F.own' i).length)
 (hf:Tryz.prog.funcs[f]?=some fn) (hb:fn.body.isSome=true) (hn:(fn.name== "runtime.NumGoroutine")=false) (f7:IE c.c2 (OC c.gr) (fn.body.getD .skip)=true)
 (H:∀i μ,F.pre i->inG (EX c.l c.x c.h c.fz c.c2 c.gr (F.own i).length (λk=> !F.chg.contains k) μ c.fs) c.G (EE (EX c.l c.x c.h c.fz c.c2 c.gr (F.own i).length (λk=> !F.chg.contains k) μ c.fs) fn.ntmps (I i) (fn.body.getD .skip) ⟨Oi (EX c.l c.x c.h c.fz c.c2 c.gr (F.own i).length (λk=> !F.chg.contains k) μ c.fs) c.G (Ns (EX c.l c.x c.h c.fz c.c2 c.gr (F.own i).length (λk=> !F.chg.contains k) μ c.fs) fn F i),λ_ _=>False,Oi (EX c.l c.x c.h c.fz c.c2 c.gr (F.own i).length (λk=> !F.chg.contains k) μ c.fs) c.G (Ns (EX c.l c.x c.h c.fz c.c2 c.gr (F.own i).length (λk=> !F.chg.contains k) μ c.fs) fn F i)⟩) ⟨LB 0 (F.args i),F.own i⟩):HS f h:=by
 cases qr:fn.body with
 |none=>rw[qr]at hb;cases hb
 |some code=>
  rw[qr]at f7 H;exact f5i F (λi μ=>EX c.l c.x c.h c.fz c.c2 c.gr (F.own i).length (λk=> !F.chg.contains k) μ c.fs) (λ_ _=>rfl) (λ_ _=>rfl) (λ_ _=>⟨rfl,rfl,rfl⟩) (λ_ _=>f44 ..) (λ_ _=>b55 hc.1 hc.2.1 hc.2.2 c.fsok) f40 hf qr hn I h hh bf gp c.G (λ_ _=>f7) H
theorem Px.of_eq{F:Fam}{k:AK}(h:∀a b s,k a=some (b,s)->b->∃i,BG a (F.args i)/\F.pre i/\s=F.res i):Px F k:=h
def Lf(p:Prop):Prop:=Classical.choose (p:=λq:Prop=>q=p) ⟨p,rfl⟩
theorem Le(p:Prop):Lf p=p:=Classical.choose_spec (p:=λq:Prop=>q=p) ⟨p,rfl⟩
theorem Lm{p:Prop}(h:p):Lf p:=Eq.mpr (Le p) h
structure Wk (q p:Prop):Prop where
 out:q->p
theorem Wan{a b A B:Prop}(f:Wk a A)(g:Wk b B):Wk (a/\b) (A/\B):=⟨λh=>⟨f.1 h.1,g.1 h.2⟩⟩
theorem Was{a x B:Prop}(hx:x)(f:Wk a B):Wk a (JM x/\B):=⟨λh=>⟨JM.mk hx,f.1 h⟩⟩
theorem Wbr{c:Bool}{A B a b:Prop}(f:c=true->Wk a A)(g:c=false->Wk b B):Wk ((c=true->a)/\(c=false->b)) (Br c A B):=⟨λk=>Br.mk (λh=>(f h).1 (k.1 h)) (λh=>(g h).1 (k.2 h))⟩
theorem Wbt{c:Bool}{A B a:Prop}(h:c=true)(f:Wk a A):Wk a (Br c A B):=⟨λk=>Br.litT h (f.1 k)⟩
theorem Wbf{c:Bool}{A B a:Prop}(h:c=false)(f:Wk a B):Wk a (Br c A B):=⟨λk=>Br.litF h (f.1 k)⟩
theorem Wtr:Wk True True:=⟨λh=>h⟩
theorem Wro{n:Nat}{f b:Nat->List SV}{a:Prop}(k:Wk a (∀i,i<n->f i=b i)):Wk a (∀i,i<n->HC (f i) (b i)):=⟨λh=>QC (k.1 h)⟩
structure Hu (p:Prop):Prop where
 out:p
theorem Iu{p a:Prop}(f:p->a):Hu p->a:=λh=>f h.1
theorem Wub{p q a:Prop}(f:p->Wk a q):Wk (Hu p->a) (Ub p q):=⟨λk=>Ub.mk λh=>(f h).1 (k ⟨h⟩)⟩
theorem Wal{p a:SlH->Prop}(f:∀v,Wk (a v) (p v)):Wk (∀v,a v) (Oo p):=⟨λk=>Oo.mk λv=>(f v).1 (k v)⟩
theorem Wla{x y:Option Entry}(h:x=y):Wk True (Ox x y):=⟨λ_=>Ox.mk h⟩
def Wnp(h:SlH->Prop):SlH->Prop:=h
theorem Wlf{p:Prop}:Wk (Lf p) p:=⟨Eq.mp (Le p)⟩
theorem Wsa{q p:Prop}(h:Wk q (JM p)):Wk q (JM p):=h
theorem Wse{q:Prop}{α:Type}{a b:α}(h:Wk q (a=b)):Wk q (a=b):=h
theorem Wsf{q:Prop}(h:Wk q False):Wk q False:=h
theorem Wsl{q:Prop}{a b:Option Entry}(h:Wk q (Ox a b)):Wk q (Ox a b):=h
theorem Wsk{q:Prop}{k:IntKind}{n:Int}(h:Wk q (AD k n)):Wk q (AD k n):=h
universe u
theorem Wsx{q:Prop}{α:Sort u}{p:α->Prop}(h:Wk q (∃x,p x)):Wk q (∃x,p x):=h
theorem Wsp{q:Prop}{α:Sort u}{p:α->Prop}(h:Wk q (∀x,p x)):Wk q (∀x,p x):=h
theorem WlA{a x:Prop}(f:Wk a x):Wk a (JM x):=⟨λh=>JM.mk (f.1 h)⟩
theorem TV{p:Prop}(h:p):Wk True p:=⟨λ_=>h⟩
theorem AB{p:Prop}(q:Prop)(a:q)(h:Wk q p:=by
 repeat'(first
  |(with_reducible refine' Was ?hx ?_
    case hx=>first|exact trivial|exact λ_=>trivial)
  |with_reducible refine' Wan ?_ ?_
  |(with_reducible refine' Wbt ?hx ?_
    case hx=>exact(Eq.refl true))
  |(with_reducible refine' Wbf ?hx ?_
    case hx=>exact(Eq.refl false))
  |with_reducible refine' Wbr (λh=> ?_) (λh=> ?_)
  |with_reducible exact Wtr
  |with_reducible refine' Wro ?_
  |with_reducible refine' Wub (λhu=> ?_)
  |with_reducible refine' Wal (λv=> ?_)
  |(with_reducible refine' Wla ?hx
    case hx=>exact rfl)
  |(fail_if_success (with_reducible first|refine' Wsa ?_|refine' Wse ?_|refine' Wsf ?_|refine' Wsx ?_|refine' Wsp ?_|refine' Wsk ?_|refine' Wsl ?_|refine' Wnp ?_)
    conv=>arg 2;whnf))
 all_goals(try with_reducible refine' WlA ?_)
 all_goals(try first|exact TV trivial|exact TV (λ_=>trivial))
 all_goals(try((conv=>arg 2;dsimp only);try with_reducible first|exact Wtr|exact TV rfl))
 all_goals(try exact Wlf)):p:=h.1 a
theorem AJ{p:Prop}(q:Prop)(a:q)(h:Wk q p:=by
 repeat'(first
  |(with_reducible refine' Was ?hx ?_
    case hx=>first|exact trivial|exact λ_=>trivial)
  |with_reducible refine' Wan ?_ ?_
  |(with_reducible refine' Wbt ?hx ?_
    case hx=>exact(Eq.refl true))
  |(with_reducible refine' Wbf ?hx ?_
    case hx=>exact(Eq.refl false))
  |with_reducible refine' Wbr (λh=> ?_) (λh=> ?_)
  |with_reducible exact Wtr
  |with_reducible refine' Wub (λhu=> ?_)
  |with_reducible refine' Wal (λv=> ?_)
  |(with_reducible refine' Wla ?hx
    case hx=>exact rfl)
  |(fail_if_success (with_reducible first|refine' Wsa ?_|refine' Wse ?_|refine' Wsf ?_|refine' Wsx ?_|refine' Wsp ?_|refine' Wsk ?_|refine' Wsl ?_|refine' Wnp ?_)
    conv=>arg 2;whnf))
 all_goals(try with_reducible refine' WlA ?_)
 all_goals(try first|exact TV trivial|exact TV (λ_=>trivial))
 all_goals(try((conv=>arg 2;dsimp only);try with_reducible first|exact Wtr|exact TV rfl))
 all_goals(try exact Wlf)):p:=h.1 a
theorem X0b{p q a:Prop}(f:p->Wk a q):Wk (p->a) (Ub p q):=⟨λk=>Ub.mk λh=>(f h).1 (k h)⟩
theorem X0{p:Prop}(q:Prop)(a:q)(h:Wk q p:=by
 repeat'(first
  |(with_reducible refine' Was ?hx ?_
    case hx=>first|exact trivial|exact λ_=>trivial)
  |with_reducible refine' Wan ?_ ?_
  |(with_reducible refine' Wbt ?hx ?_
    case hx=>exact(Eq.refl true))
  |(with_reducible refine' Wbf ?hx ?_
    case hx=>exact(Eq.refl false))
  |with_reducible refine' Wbr (λh=> ?_) (λh=> ?_)
  |with_reducible exact Wtr
  |with_reducible refine' Wro ?_
  |with_reducible refine' X0b (λh=> ?_)
  |with_reducible refine' Wal (λv=> ?_)
  |(with_reducible refine' Wla ?hx
    case hx=>exact rfl)
  |(fail_if_success (with_reducible first|refine' Wsa ?_|refine' Wse ?_|refine' Wsf ?_|refine' Wsx ?_|refine' Wsp ?_|refine' Wsk ?_|refine' Wsl ?_|refine' Wnp ?_)
    conv=>arg 2;whnf))
 all_goals(try with_reducible refine' WlA ?_)
 all_goals(try first|exact TV trivial|exact TV (λ_=>trivial))
 all_goals(try((conv=>arg 2;dsimp only);try with_reducible first|exact Wtr|exact TV rfl))
 all_goals(try exact Wlf)):p:=h.1 a
theorem X0a{p:Prop}(q:Prop)(a:q)(h:Wk q p:=by
 repeat'(first
  |(with_reducible refine' Was ?hx ?_
    case hx=>first|exact trivial|exact λ_=>trivial)
  |with_reducible refine' Wan ?_ ?_
  |(with_reducible refine' Wbt ?hx ?_
    case hx=>exact(Eq.refl true))
  |(with_reducible refine' Wbf ?hx ?_
    case hx=>exact(Eq.refl false))
  |with_reducible refine' Wbr (λh=> ?_) (λh=> ?_)
  |with_reducible exact Wtr
  |with_reducible refine' X0b (λh=> ?_)
  |with_reducible refine' Wal (λv=> ?_)
  |(with_reducible refine' Wla ?hx
    case hx=>exact rfl)
  |(fail_if_success (with_reducible first|refine' Wsa ?_|refine' Wse ?_|refine' Wsf ?_|refine' Wsx ?_|refine' Wsp ?_|refine' Wsk ?_|refine' Wsl ?_|refine' Wnp ?_)
    conv=>arg 2;whnf))
 all_goals(try with_reducible refine' WlA ?_)
 all_goals(try first|exact TV trivial|exact TV (λ_=>trivial))
 all_goals(try((conv=>arg 2;dsimp only);try with_reducible first|exact Wtr|exact TV rfl))
 all_goals(try exact Wlf)):p:=h.1 a
theorem X0c{p:Prop}(h:p:=by
 refine' X0 _ ?_;(repeat' first|constructor|intro h)<;>refine' Lm ?_
 all_goals first|exact A8|skip):p:=h
theorem X0d{p:Prop}(h:p:=by
 refine' X0 _ ?_;(repeat' first|constructor|intro h)<;>refine' Lm ?_
 all_goals first|exact Aw|skip):p:=h
theorem X0e{p:Prop}(h:p:=by
 refine' X0 _ ?_;(repeat' first|constructor|intro h)<;>refine' Lm ?_
 all_goals(first|rfl|exact A4)):p:=h
theorem X0f{p:Prop}(h:p:=by
 refine' X0 _ ?_;(repeat' first|constructor|intro h)<;>refine' Lm ?_
 all_goals first|exact Aw):p:=h
theorem X0g{p:Prop}(h:p:=by
 refine' X0 _ ?_;(repeat' first|constructor|intro h)<;>refine' Lm ?_
 all_goals(try simp only[HA,CL]at*)
 all_goals(first
  |exact B5
  |skip)):p:=h
theorem X0h{p:Prop}(h:p:=by
 refine' X0 _ ?_;(repeat' first|constructor|intro h)<;>refine' Lm ?_
 all_goals(first
  |exact Ad
  |exact B7
  |omega
  |skip)):p:=h
theorem X1a{p:Prop}(h:p:=by
 refine' X0 _ ?_;(repeat' first|constructor|intro h)<;>refine' Lm ?_
 all_goals first|exact A2|exact Ai|skip):p:=h
theorem X1b{p:Prop}(h:p:=by
 refine' X0 _ ?_;(repeat' first|constructor|intro h)<;>refine' Lm ?_
 all_goals first|exact A2|skip):p:=h
theorem X1c{p:Prop}(h:p:=by
 refine' X0 _ ?_;(repeat' first|constructor|intro h)<;>refine' Lm ?_
 all_goals first|exact Bp|skip):p:=h
theorem X1d{p:Prop}(h:p:=by
 refine' X0 _ ?_;(repeat' first|constructor|intro h)<;>refine' Lm ?_
 all_goals first|exact An|skip):p:=h
theorem X1e{p:Prop}(h:p:=by
 refine' X0 _ ?_;(repeat' first|constructor|intro h)<;>refine' Lm ?_
 all_goals first|exact Bq|skip):p:=h
theorem X1f{p:Prop}(h:p:=by
 refine' X0 _ ?_;(repeat' first|constructor|intro h)<;>refine' Lm ?_
 all_goals first|exact Ad|exact(Lu _).symm|skip):p:=h
theorem X1g{p:Prop}(h:p:=by
 refine' X0 _ ?_;(repeat' first|constructor|intro h)<;>refine' Lm ?_
 all_goals(first
  |exact g
  |rfl
  |skip)):p:=h
theorem X1h{p:Prop}(h:p:=by
 refine' X0a _ ?_;(repeat' first|constructor|intro h)<;>refine' Lm ?_
 all_goals first|exact Bm|skip):p:=h
theorem X2{p:Prop}(h:p:=by
 refine' X0a _ ?_;(repeat' first|constructor|intro h)<;>refine' Lm ?_
 all_goals first|exact Ak|skip):p:=h
theorem X2a{p:Prop}(h:p:=by
 refine' X0a _ ?_;(repeat' first|constructor|intro h)<;>refine' Lm ?_
 all_goals(try simp only[q,t,u,Iy])
 all_goals first|rfl|omega|exact e|exact A5|skip):p:=h
theorem X2b{p:Prop}(h:p:=by
 refine' X0a _ ?_;(repeat' first|constructor|intro h)<;>refine' Lm ?_
 all_goals first
  |exact Ak
  |skip):p:=h
theorem X2c{p:Prop}(h:p:=by
 refine' X0a _ ?_;(repeat' first|constructor|intro h)<;>refine' Lm ?_
 all_goals first
  |exact Ak
  |exact Ag
  |skip):p:=h
theorem X2d{p:Prop}(h:p:=by
 refine' X0a _ ?_;(repeat' first|constructor|intro h)<;>refine' Lm ?_
 all_goals(try simp only[Iy,CS])
 all_goals first|exact Ab|skip):p:=h
theorem X2e{p:Prop}(h:p:=by
 refine' X0a _ ?_;(repeat' first|constructor|intro h)<;>refine' Lm ?_
 all_goals(try simp only[Hv,Hw,CS,N]at*)
 all_goals(try first
  |exact A3
  |(intro _ _;left;rw[<-kE]))):p:=h
theorem X2f{p:Prop}(h:p:=by
 refine' X0a _ ?_;(repeat' first|constructor|intro h)<;>refine' Lm ?_
 all_goals(try simp only[Iy])
 all_goals first|exact Bn|skip):p:=h
theorem X2g{p:Prop}(h:p:=by
 refine' X0a _ ?_;(repeat' first|constructor|intro h)<;>refine' Lm ?_
 all_goals(try simp only[Iy,t,o,k1.1])
 all_goals first|exact Bn|skip):p:=h
theorem X2h{p:Prop}(h:p:=by
 refine' X0a _ ?_;(repeat' first|constructor|intro h)<;>refine' Lm ?_
 all_goals(try simp only[Iy,t,v,o,k1.1])
 all_goals first|exact Bn|skip):p:=h
section
open Go.RowKit
theorem c2u{P:Program}{w:World}{n:String}{g:Nat}{cs:Array Value}(a:P.globalNamed n=some g)(h:w.var? P n=some cs):g<w.heap.size:=by
 simp only[World.var?,a,Kw]at h;split at h
 .rename_i b;exact(Jt.1 b).1
 .cases h
theorem d2k:laidOutB Tryz.prog=true:=Dk
theorem b50{W:World}{A:Nat->Prop}(j:∀b,¬A b){n:String}{g g0:Nat}{t:TypeId}{cs:Array Value}{fuel:Nat}{d:DataW Unit}{p:List MemPlace}{sz m:Nat}{f:Nat->List SV}
 (h:Tryz.prog.globalNamed n=some g) (l:(Tryz.prog.globals[g]?).map (·.type)=some t) (i:W.var? Tryz.prog n=some cs) (o:DataW.trod (λ_=>()) Tryz.prog W 0 (λ_=>true) false fuel t cs.toList=some (d,p))
 (q:Tryz.prog.globalNamed n=some g0) (a:(Tryz.prog.globals[g0]?).map (λc=>XI Tryz.prog 10 c.type&&isVar Tryz.prog c.type)=some true) (r:UC d=true) (s:0<m) (u:c9e sz m f (Ue d)=true):
 (SV.rel sz m f 0 0).pure=true/\D W A BM (.rel sz m f 0 0) (.pointer (some ⟨g0,0,none⟩)):=by
 obtain rfl:=Jj (q.symm.trans h);obtain⟨c,v,rfl⟩:=In.1 l;rw[v]at a;simp only[Ju,J8,Jc]at a;have e:=c99 d2k fuel c.type cs.toList (d,p) 10 a.1 a.2 o r;refine c0r (cs:=cs.toList) s (j g0) (c2u h i) (λk=> ?_) (by rw[e];exact u);rw[World.var?_cell h i k];simp
open Classical in
noncomputable def SN(F:Fam):List SV->Option (Prop×SV):=λzs=>if∃i,F.pre i/\zs=F.args i then some (True,.bool true)else none
theorem f0s{f:FuncId}{F:Fam}(this:PS f (SN F))(i:F.ι)(c:F.pre i)
 {w:World} {vals:List Value} (d:∀g t,Oj g=some t->t.pure=true/\D w (λ_=>False) BM t (.pointer (some ⟨g,0,none⟩))) (j:DL w (λ_=>False) BM (F.args i) vals):
 Calls Tryz.prog f vals.toArray w λe a=>e=.returned (.bool true)/\Fr w.heap.size (λ_=>False) w a:=by
 refine(this.2 (λ_=>False) w (F.args i) vals True (.bool true) (λb h=>h.elim) d j ?_ trivial).mono ?_
 .unfold SN;rw[Ih ⟨i,c,rfl⟩]
 .rintro e a ⟨v,rfl,k,l⟩;cases k;exact⟨rfl,l⟩
theorem top{f:FuncId}{fn:Func}(c:Cs)(hc:c.OK)(F:Fam)(I:F.ι->Nat->Option Inv)(fu:∀i,F.res i=.bool true)(bj:∀i,BG (F.args i) (F.args i))(bf:∀i,(F.args i).length<=fn.ntmps)
 (hf:Tryz.prog.funcs[f]?=some fn) (hb:fn.body.isSome=true) (hn:(fn.name== "runtime.NumGoroutine")=false) (f7:IE c.c2 (OC c.gr) (fn.body.getD .skip)=true)
 (H:∀i,F.pre i->EE (EX c.l c.x c.h c.fz c.c2 c.gr 0 (λ_=>true) (λ_=>none) c.fs) fn.ntmps (I i) (fn.body.getD .skip) ⟨LX (EX c.l c.x c.h c.fz c.c2 c.gr 0 (λ_=>true) (λ_=>none) c.fs) fn (F.res i),λ_ _=>False,LX (EX c.l c.x c.h c.fz c.c2 c.gr 0 (λ_=>true) (λ_=>none) c.fs) fn (F.res i)⟩ ⟨LB 0 (F.args i),[]⟩) (i:F.ι) (hp:F.pre i)
 {w:World} {vals:List Value} (hg:∀g t,Oj g=some t->t.pure=true/\D w (λ_=>False) BM t (.pointer (some ⟨g,0,none⟩))) (hD:DL w (λ_=>False) BM (F.args i) vals):
 Calls Tryz.prog f vals.toArray w λe w'=>e=.returned (.bool true)/\Fr w.heap.size (λ_=>False) w w':=by
 have:=NH c hc F I (SN F) (λzs p s hk hp=>by
  unfold SN at hk;split at hk
  .rename_i W2;obtain⟨i,hi,rfl⟩:=W2;cases hk;exact⟨i,bj i,hi,(fu i).symm⟩
  .cases hk) bf hf hb hn f7 H
 exact f0s this i hp hg hD
theorem c1y{w w':World}(h:Fr w.heap.size (λ_=>False) w w'):Below w.heap.size w w':=⟨h.os,h.tape,h.output,h.size,λk a=>h.block k a (λh=>h)⟩
theorem b2j{H:Type}{enc:TypeId×Value->H}{P:Program}(e:laidOutB P=true){W f:World}(g:Below W.heap.size W f):∀{ts:List TypeId} {vs:List Value} {a:List (DataW H)} {ps:List MemPlace},
 (ts.all λt=>P.readableRec t&&decide (t<P.types.size))=true->DataW.TrodAll enc P W 0 (λ_=>true) true ts vs a ps->(∀x∈ps,x.block<W.heap.size)->DataW.TrodAll enc P f 0 (λb=>decide (b<W.heap.size)) true ts vs a ps
 | [],vs,a,ps,_,h,_=>by obtain⟨rfl,rfl,rfl⟩:=Go.ChangeShapes.trodAll_nil h;rfl
 |t::ts,vs,a,ps,c,h,i=>by obtain⟨v,vs',d,ds',p,q,rfl,rfl,rfl,j,k⟩:=Go.ChangeShapes.trodAll_cons h;simp only[List.all_cons,I3]at c;exact⟨p,q,Below.trod e c.1.1 c.1.2 j g (λx hx=>i x E4),b2j e g (by simpa using c.2) k (λx hx=>i x E4),rfl⟩
theorem d80{H:Type}{enc:TypeId×Value->H}{P:Program}(l:laidOutB P=true){a:Func}{s:ChangeSpec}{tb:TypeId}{W f:World}{args:Array Value}{b g:List (DataW H)}{before:List MemPlace}(i:s.vars=[])(m:a.resultTypes= #[tb])(c:P.underlying tb=some .bool)
 (d:s.fn H (b++g)={results:=[.lit (.bool true)],args:=b}) (n:(a.params.toList.all λt=>P.readableRec t&&decide (t<P.types.size))=true) (e:DataW.Whole enc P a.params.toList s.vars false W args.toList b g before) (j:Below W.heap.size W f):
 s.post enc P a false true false false W args (.bool true) f:=by
 have o:=e;obtain⟨p,q,r,k,rfl,hfz,p9⟩:=o;rw[i]at k;obtain⟨rfl,rfl⟩:=Go.ChangeShapes.trodVars_none k;refine⟨b,[],p++[],[],p,[],e,?_,?_,?_,j.frame _,λh=>Dw⟩
 .rw[d,m];exact Go.ChangeShapes.trodAll_mk1 (shut_bool c true)
 .rw[d];refine b2j l j n r (λx hx=> ?_);have:=e.lt x E4;simpa using this
 .rw[d,i];rfl
end
end Go.Proofs.YtngppkidkigcbaaGreatDoor.V
