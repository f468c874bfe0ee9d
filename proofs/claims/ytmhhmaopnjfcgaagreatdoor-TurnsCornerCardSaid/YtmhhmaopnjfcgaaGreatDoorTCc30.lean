/-
  Parts of the proof: T51d. Conditions: none.
-/
import Derived.Test.YtmhhmaopnjfcgaaGreatDoorTCc26
namespace Go.Proofs.YtmhhmaopnjfcgaaGreatDoor.V.I
open Go
set_option maxRecDepth 1000000 in
theorem run51d : okAll (fun m => okT (runJ E9 tbG 3000 60 7 [.int .u8 (Int.ofNat m)] .lf 0)) 64 192 = true := by kernel_rfl
end Go.Proofs.YtmhhmaopnjfcgaaGreatDoor.V.I
