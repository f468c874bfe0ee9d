/-
  Parts of the proof: Y23. Conditions: none.
-/
import Derived.Test.YtaihldljnlgnoaaGreatDoorSkc15
set_option maxRecDepth 100000
set_option maxHeartbeats 40000000
namespace Go.Proofs.YtaihldljnlgnoaaGreatDoor.V
open Go
def kEqC:AK
 | [x,y]=>match NU x,NU y with
   |some (n,f),some (m,g)=>some (((KZ n f/\n<=100000)/\KZ m g)/\DZ n f=DZ m g,.bool true)
   |_,_=>none
 |_=>none
def FEqC:Fam:=⟨List Cr,λl=>[.sl 3 l.length (DU l) none,.sl 3 l.length (DU l) none],λl=>l.length<=100000,λ_=>.bool true⟩
def IEqC:List Cr->Nat->Option Inv
 |l,4=>some {β:=Nat,ok:=λi=>i<=l.length,st:=λi=>⟨[⟨13,none,.int .i64 i⟩,⟨12,none,.int .i64 l.length⟩,⟨1,none,.sl 3 l.length (DU l) none⟩,⟨0,none,.sl 3 l.length (DU l) none⟩],[]⟩,μ:=λi=>l.length-i}
 |_,_=>none
theorem pEqC:PS 39 kEqC:=by
 refine con [] Dz FEqC IEqC kEqC ?_ ?_ Tryz.func39 Dy Dy Dy ?_
 .intro args pre s h a;unfold kEqC at h;split at h
  .split at h
   .rename_i n f m g hx d;cases h;obtain⟨⟨⟨e,j⟩,k⟩,o⟩:=a;refine⟨DZ n f,⟨IW (QH hx e),?_,Ja⟩,by show (DZ n f).length<=_;rw[RP];exact j,rfl⟩;rw[o];exact IW (QH d k)
   .cases h
  .cases h
 .exact Bx
 .intro l a;replace a:l.length<=100000:=a;refine X0a _ ?_;(repeat' first|constructor|intro h)<;>refine Lm ?_
  all_goals(try(exfalso;simp at h;done))
  refine⟨(0:Nat),Jj _,?_,?_⟩
  .exact X2b
  .intro i c;replace c:i<=l.length:=c;refine X0b _ ?_;(repeat' first|constructor|intro h)<;>refine Lm ?_
   all_goals(try simp only[If]at*)
   all_goals(try first
    |exact B8
    |(exfalso;simp at h;done)
    |rfl
    |(refine⟨i+1,Ec,Ea,?_⟩
      all_goals refine X0b _ ?_;(repeat' first|constructor|intro h)<;>refine Lm ?_
      all_goals first|exact Ay|omega|skip))
def c8z:AK
 | [x,y]=>match NS x,NS y with
   |some (q,p),some (a,b)=>some ((q/\a)/\p=b,.bool true)
   |_,_=>none
 |_=>none
def FPSame:Fam:=⟨Pt,λp=>[ID p,ID p],λp=>p.l.length<=100000,λ_=>.bool true⟩
theorem pPSame:PS 13 c8z:=by
 refine con [(39,kEqC)] (by simpa using pEqC) FPSame (λ_ _=>none) c8z ?_ ?_ Tryz.func13 Dy Dy Dy ?_
 .intro args pre s h a;unfold c8z at h;split at h
  .split at h
   .rename_i q p q' p' hx c;cases h;obtain⟨⟨b,d⟩,rfl⟩:=a;exact⟨p,⟨(Nl hx b).1,(Nl c d).1,Ja⟩,(Nl hx b).2,rfl⟩
   .cases h
  .cases h
 .exact Bx
 .intro p a;replace a:p.l.length<=100000:=a;refine X0b _ ?_;(repeat' first|constructor|intro h)<;>refine Lm ?_
  all_goals(try first
   |exact⟨⟨⟨Do _,a⟩,Do _⟩,rfl⟩
   |exact λ_=>⟨⟨⟨Do _,a⟩,Do _⟩,rfl⟩
   |rfl
   |(simp;done))
end Go.Proofs.YtaihldljnlgnoaaGreatDoor.V
