/-
  Parts of the proof: C31 A45 C22 A46 Y23 Y24 Y25 Y26 Y27. Conditions: none.
-/
import Derived.Test.YtaihldljnlgnoaaGreatDoorSmc9
import Derived.Test.YtaihldljnlgnoaaGreatDoorSmc15
set_option maxRecDepth 100000
set_option maxHeartbeats 40000000
namespace Go.Proofs.YtaihldljnlgnoaaGreatDoor.V
open Go
def kEqC:AK
 | [x,y]=>match NT x,NT y with
   |some (n,f),some (m,g)=>some (((ME n f/\n<=100000)/\ME m g)/\EK n f=EK m g,.bool true)
   |_,_=>none
 |_=>none
def FEqC:Fam:=⟨List Cr,λl=>[.sl 3 l.length (DZ l) none,.sl 3 l.length (DZ l) none],λl=>l.length<=100000,λ_=>.bool true⟩
def IEqC:List Cr->Nat->Option Inv
 |l,4=>some {β:=Nat,ok:=λi=>i<=l.length,st:=λi=>⟨[⟨13,none,.int .i64 i⟩,⟨12,none,.int .i64 l.length⟩,⟨1,none,.sl 3 l.length (DZ l) none⟩,⟨0,none,.sl 3 l.length (DZ l) none⟩],[]⟩,μ:=λi=>l.length-i}
 |_,_=>none
theorem pEqC:PS 39 kEqC:=by
 refine con [] E6 FEqC IEqC kEqC ?_ ?_ Tryz.func39 E5 E5 E5 ?_
 .intro args pre s h a;unfold kEqC at h;split at h
  .split at h
   .rename_i n f m g hx d;cases h;obtain⟨⟨⟨e,j⟩,k⟩,o⟩:=a;refine⟨EK n f,⟨HT (QQ hx e),?_,Ji⟩,by show (EK n f).length<=_;rw[RW];exact j,rfl⟩;rw[o];exact HT (QQ d k)
   .cases h
  .cases h
 .exact C3
 .intro l a;replace a:l.length<=100000:=a;refine X0a _ ?_;(repeat' first|constructor|intro h)<;>refine Lm ?_
  all_goals(try(exfalso;simp at h;done))
  refine⟨(0:Nat),Js _,?_,?_⟩
  .exact X2a
  .intro i c;replace c:i<=l.length:=c;refine X0b _ ?_;(repeat' first|constructor|intro h)<;>refine Lm ?_
   all_goals(try simp only[In]at*)
   all_goals(try first
    |exact Ay
    |(exfalso;simp at h;done)
    |rfl
    |(refine⟨i+1,Ei,Ef,?_⟩
      all_goals refine X0b _ ?_;(repeat' first|constructor|intro h)<;>refine Lm ?_
      all_goals first|exact B7|omega|skip))
def c2r:AK
 | [x,y]=>match NR x,NR y with
   |some (q,p),some (a,b)=>some ((q/\a)/\p=b,.bool true)
   |_,_=>none
 |_=>none
def FPSame:Fam:=⟨Pt,λp=>[IH p,IH p],λp=>p.l.length<=100000,λ_=>.bool true⟩
theorem f48:PS 13 c2r:=by
 refine con [(39,kEqC)] (by simpa using pEqC) FPSame (λ_ _=>none) c2r ?_ ?_ Tryz.func13 E5 E5 E5 ?_
 .intro args pre s h a;unfold c2r at h;split at h
  .split at h
   .rename_i q p q' p' hx c;cases h;obtain⟨⟨b,d⟩,rfl⟩:=a;exact⟨p,⟨(OA hx b).1,(OA c d).1,Ji⟩,(OA hx b).2,rfl⟩
   .cases h
  .cases h
 .exact C3
 .intro p a;replace a:p.l.length<=100000:=a;refine X0b _ ?_;(repeat' first|constructor|intro h)<;>refine Lm ?_
  all_goals(try first
   |exact⟨⟨⟨EC _,a⟩,EC _⟩,rfl⟩
   |exact λ_=>⟨⟨⟨EC _,a⟩,EC _⟩,rfl⟩
   |rfl
   |(simp;done))
def kEqI:AK
 | [x,y]=>match AC.as x,AC.as y with
   |some (n,f),some (m,g)=>some (((AC.isL n f/\n<=100000)/\AC.isL m g)/\AC.lst n f=AC.lst m g,.bool true)
   |_,_=>none
 |_=>none
def FEqI:Fam:=⟨List Int,λl=>[.sl 1 l.length (AC.row l) none,.sl 1 l.length (AC.row l) none],λl=>l.length<=100000,λ_=>.bool true⟩
def IEqI:List Int->Nat->Option Inv
 |l,4=>some {β:=Nat,ok:=λi=>i<=l.length,st:=λi=>⟨[⟨13,none,.int .i64 i⟩,⟨12,none,.int .i64 l.length⟩,⟨1,none,.sl 1 l.length (AC.row l) none⟩,⟨0,none,.sl 1 l.length (AC.row l) none⟩],[]⟩,μ:=λi=>l.length-i}
 |_,_=>none
theorem pEqI:PS 91 kEqI:=by
 refine con [] E6 FEqI IEqI kEqI ?_ ?_ Tryz.func91 E5 E5 E5 ?_
 .intro args pre s h a;unfold kEqI at h;split at h
  .split at h
   .rename_i n f m g hx d;cases h;obtain⟨⟨⟨e,h2⟩,j⟩,k⟩:=a;refine⟨AC.lst n f,⟨HT (RT.as_leL AC hx e),?_,Ji⟩,Ih,rfl⟩;rw[k];exact HT (RT.as_leL AC d j)
   .cases h
  .cases h
 .exact C3
 .intro l a;replace a:l.length<=100000:=a;refine X0a _ ?_;(repeat' first|constructor|intro h)<;>refine Lm ?_
  all_goals(try(exfalso;simp at h;done))
  refine⟨(0:Nat),Js _,?_,?_⟩
  .exact X2a
  .intro i c;replace c:i<=l.length:=c;refine X0b _ ?_;(repeat' first|constructor|intro h)<;>refine Lm ?_
   all_goals(try simp only[Jv,Jq]at*)
   all_goals(try first
    |exact Ay
    |(exfalso;simp at h;done)
    |rfl
    |(refine⟨i+1,Ei,Ef,?_⟩
      all_goals refine X0b _ ?_;(repeat' first|constructor|intro h)<;>refine Lm ?_
      all_goals first|exact B7|omega|skip))
def kSm1:AK
 | [.agg [.int .i64 a,.int .i64 b,.int .u8 c,x],.agg [.int .i64 d,.int .i64 e,.int .u8 h,y]]=>match AC.as x,AC.as y with
   |some (n,f),some (m,g)=>some (((AC.isL n f/\n<=100000)/\AC.isL m g)/\(a=d/\b=e/\c=h)/\AC.lst n f=AC.lst m g,.bool true)
   |_,_=>none
 |_=>none
def FSm1:Fam:=⟨Stk,λs=>[.agg (AA.sv s),.agg (AA.sv s)],λs=>s.l.length<=100000,λ_=>.bool true⟩
theorem pSm1:PS 90 kSm1:=by
 refine con [(91,kEqI)] (by simpa using pEqI) FSm1 (λ_ _=>none) kSm1 ?_ ?_ Tryz.func90 E5 E5 E5 ?_
 .intro args pre s h d;unfold kSm1 at h;split at h
  .rename_i a b c x a' b' c' y;split at h
   .rename_i n f m g hx j;cases h;obtain⟨⟨⟨k,h2⟩,o⟩,⟨rfl,rfl,rfl⟩,q⟩:=d;have r:=RT.as_leL AC hx k;have e:=RT.as_leL AC j o;rw[<-q]at e;refine⟨⟨⟨a,b,c⟩,AC.lst n f⟩,⟨?_,?_,Ji⟩,Ih,rfl⟩
    .simp only[SV.le2,SV.le1,BJ,AA];exact⟨Fy,Fy,Fy,r,Ji⟩
    .simp only[SV.le2,SV.le1,BJ,AA];exact⟨Fy,Fy,Fy,e,Ji⟩
   .cases h
  .cases h
 .exact C3
 .intro s d;replace d:s.l.length<=100000:=d;refine X0b _ ?_;(repeat' first|constructor|intro h)<;>refine Lm ?_
  all_goals(try first
   |exact⟨⟨⟨RT.isL_row _ _,d⟩,RT.isL_row _ _⟩,rfl⟩
   |exact λ_=>⟨⟨⟨RT.isL_row _ _,d⟩,RT.isL_row _ _⟩,rfl⟩
   |rfl
   |(simp;done))
def kEqF:AK
 | [x,y,.clo q []]=>match IQ x,IQ y with
   |some (a,A),some (b,B)=>some (q=90/\(a/\b)/\B=A,.bool true)
   |_,_=>none
 |_=>none
def FEqF:Fam:=⟨List Stk,λL=>[.sl 4 L.length (AA.row L) none,.sl 4 L.length (AA.row L) none,.clo 90 []],λL=>ET L,λ_=>.bool true⟩
def IEqF:List Stk->Nat->Option Inv
 |L,4=>some {β:=Nat,ok:=λi=>i<=L.length,st:=λi=>⟨[⟨17,none,.int .i64 i⟩,⟨16,none,.int .i64 L.length⟩,⟨15,none,.sl 4 L.length (AA.row L) none⟩,⟨2,none,.clo 90 []⟩,⟨1,none,.sl 4 L.length (AA.row L) none⟩],[]⟩,μ:=λi=>L.length-i}
 |_,_=>none
theorem pEqF:PS 89 kEqF:=by
 refine con [(90,kSm1)] (by simpa using pSm1) FEqF IEqF kEqF ?_ ?_ Tryz.func89 E5 E5 E5 ?_
 .intro args pre s h a;unfold kEqF at h;split at h
  .split at h
   .rename_i q1 A q2 B hx f;cases h;obtain⟨rfl,⟨c,g⟩,rfl⟩:=a;exact⟨B,⟨(LD hx c).1,(LD f g).1,⟨rfl,rfl⟩,Ji⟩,(LD hx c).2,rfl⟩
   .cases h
  .cases h
 .exact C5
 .intro L a;replace a:ET L:=a;have hn:=a.1;have j:∀i,i<L.length->(L.getD i AA.d).l.length<=100000:=λi h=>a.2 _ (CY h);refine X0a _ ?_;(repeat' first|constructor|intro h)<;>refine Lm ?_
  all_goals(try(exfalso;simp at h;done))
  refine⟨(0:Nat),Js _,?_,?_⟩
  .exact X2a
  .intro i e;replace e:i<=L.length:=e;refine X0b _ ?_;(repeat' first|constructor|intro h)<;>refine Lm ?_
   all_goals(try simp only[Jv,Jq]at*)
   all_goals(try first
    |exact Ay
    |(exfalso;simp at h;done)
    |rfl
    |exact⟨⟨⟨RT.isL_row _ _,j i E4⟩,RT.isL_row _ _⟩,⟨Ji,Ji,Ji⟩,Ji⟩
    |(refine⟨i+1,Ei,Ef,?_⟩
      all_goals refine X0b _ ?_;(repeat' first|constructor|intro h)<;>refine Lm ?_
      all_goals first|exact B7|omega|skip))
def XP:AK
 | [x,y]=>match IQ x,IQ y with
   |some (a,A),some (b,B)=>some ((a/\b)/\B=A,.bool true)
   |_,_=>none
 |_=>none
def FSSame:Fam:=⟨List Stk,λL=>[FI L,FI L],λL=>ET L,λ_=>.bool true⟩
theorem f4k:PS 57 XP:=by
 refine con [(89,kEqF)] (by simpa using pEqF) FSSame (λ_ _=>none) XP ?_ ?_ Tryz.func57 E5 E5 E5 ?_
 .intro args pre s h a;unfold XP at h;split at h
  .split at h
   .rename_i q1 A q2 B hx c;cases h;obtain⟨⟨b,d⟩,rfl⟩:=a;exact⟨B,⟨(LD hx b).1,(LD c d).1,Ji⟩,(LD hx b).2,rfl⟩
   .cases h
  .cases h
 .exact C3
 .intro L a;replace a:ET L:=a;have hs:AA.isL L.length (AA.row L)/\L.length<=100000/\∀s∈AA.lst L.length (AA.row L),s.l.length<=100000:=by
   have e:AA.lst L.length (AA.row L)=L:=RT.lst_row _ _;rw[e];exact LH L a
  refine X0b _ ?_;(repeat' first|constructor|intro h)<;>refine Lm ?_
  all_goals(try first
   |exact⟨rfl,⟨hs,hs⟩,rfl⟩
   |exact⟨Ji,⟨hs,hs⟩,Ji⟩
   |exact⟨rfl,⟨hs,hs⟩,Ji⟩
   |rfl)
def d5n:AK
 | [x,y]=>match Fo x,Fo y with
   |some (q,p,r,L),some (a,b,c,d)=>some ((q/\a)/\b=p/\c=r/\d=L,.bool true)
   |_,_=>none
 |_=>none
def FTSame:Fam:=⟨Pt×Mv×List Stk,λ(p,r,L)=>[.agg (BD p r L),.agg (BD p r L)],λ(p,r,L)=>prOK p r/\EV L,λ_=>.bool true⟩
theorem d29:PS 25 d5n:=by
 refine con [(13,c2r),(57,XP)] (by simpa using⟨f48,f4k⟩) FTSame (λ_ _=>none) d5n ?_ ?_ Tryz.func25 E5 E5 E5 ?_
 .intro args pre s h a;unfold d5n at h;split at h
  .split at h
   .rename_i q p r L q' c d f hx g;cases h;obtain⟨⟨j,k⟩,rfl,rfl,rfl⟩:=a;obtain⟨m,n⟩:=Ll hx j;obtain⟨o,_⟩:=Ll g k;exact⟨(c,d,f),⟨m,o,Ji⟩,n,rfl⟩
   .cases h
  .cases h
 .exact C3
 .rintro⟨p,r,L⟩ a;replace a:prOK p r/\EV L:=a;have hs:AA.isL L.length (AA.row L)/\L.length<=100000/\∀s∈AA.lst L.length (AA.row L),s.l.length<=100000:=by
   have e:AA.lst L.length (AA.row L)=L:=RT.lst_row _ _;rw[e];exact LH L a.2.1
  have b:=a.1.1.1;refine X0b _ ?_;(repeat' first|constructor|intro h)<;>refine Lm ?_
  all_goals(try first
   |exact⟨⟨⟨EC _,b⟩,EC _,b⟩,rfl⟩
   |exact λ_=>⟨⟨hs,hs⟩,rfl⟩
   |exact⟨⟨hs,hs⟩,rfl⟩
   |rfl
   |(simp;done))
def c4w:AK
 | [x,y]=>match Fo x,Fo y with
   |some (q,p,r,_),some (a,b,c,_)=>some ((q/\a)/\b=p/\¬c=r,.bool false)
   |_,_=>none
 |_=>none
def f78:Fam:=⟨(Pt×Mv×List Stk)×Mv×List Stk,λ((p,r,L),a,b)=>[.agg (BD p r L),.agg (BD p a b)],λ((p,r,L),a,b)=>(prOK p r/\EV L)/\(prOK p a/\EV b)/\¬a=r,λ_=>.bool false⟩
theorem f6d:PS 25 c4w:=by
 refine con [(13,c2r),(57,XP)] (by simpa using⟨f48,f4k⟩) f78 (λ_ _=>none) c4w ?_ ?_ Tryz.func25 E5 E5 E5 ?_
 .intro args pre s h b;unfold c4w at h;split at h
  .split at h
   .rename_i q p r L q' l a g hx m;cases h;obtain⟨⟨c,d⟩,rfl,f⟩:=b;obtain⟨n,o⟩:=Ll hx c;obtain⟨u,v⟩:=Ll m d;exact⟨((l,r,L),a,g),⟨n,u,Ji⟩,⟨o,v,f⟩,rfl⟩
   .cases h
  .cases h
 .exact C3
 .rintro⟨⟨p,r,L⟩,a,g⟩ b;replace b:(prOK p r/\EV L)/\(prOK p a/\EV g)/\¬a=r:=b;have k:=b.1.1.1.1;have j:¬(r.t=a.t/\r.x=a.x/\r.y=a.y):=λh=>b.2.2 (by
   obtain⟨t,x,y⟩:=r;obtain⟨t',x',y'⟩:=a;obtain⟨c,d,f⟩:=h;simp only at c d f;subst c d f;rfl)
  refine X0b _ ?_;(repeat' first|constructor|intro h)<;>refine Lm ?_
  all_goals(try first
   |exact⟨⟨⟨EC _,k⟩,EC _,k⟩,rfl⟩
   |(intro h;exfalso;apply j;simpa using h)
   |(have e:(decide (r.t=a.t)&&(decide (r.x=a.x)&&decide (r.y=a.y)))=false:=by simpa using j
     simp[e];done)
   |(simpa using j)
   |rfl)
end Go.Proofs.YtaihldljnlgnoaaGreatDoor.V
