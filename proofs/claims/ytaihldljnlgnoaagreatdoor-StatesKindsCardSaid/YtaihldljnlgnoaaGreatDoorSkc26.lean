/-
  Parts of the proof: R6. Conditions: none.
-/
import Derived.Test.YtaihldljnlgnoaaGreatDoorSkc18
set_option maxRecDepth 100000
set_option maxHeartbeats 40000000
namespace Go.Proofs.YtaihldljnlgnoaaGreatDoor.V
open Go
section
open Go.RowKit Go.ChangeShapes Go.WideShapes Go.ChangeAt
section
variable{H:Type}{enc:TypeId × Value->H}{w:World}{base:Nat}{sp:Nat->Bool}{held:Bool}
theorem f64{v:Value}{d:DataW H}{ps:List MemPlace}(a:Value.okWide Tryz.prog w .any base 47 v)(h:DataW.Trod enc Tryz.prog w 0 sp held 47 v d ps):∃n,AD .u64 n/\v=.int .u64 n:=by obtain⟨n,e,_,_,b⟩:=open_int Tryz.underlying47 a h;exact⟨n,b6b b,e⟩
end
end
end Go.Proofs.YtaihldljnlgnoaaGreatDoor.V
