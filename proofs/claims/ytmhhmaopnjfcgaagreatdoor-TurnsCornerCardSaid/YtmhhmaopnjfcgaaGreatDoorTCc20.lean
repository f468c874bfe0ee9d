/-
  Parts of the proof: Tl. Conditions: none.
-/
import Derived.Test.YtmhhmaopnjfcgaaGreatDoorTCc8
import Derived.Test.YtmhhmaopnjfcgaaGreatDoorTCc19
namespace Go.Proofs.YtmhhmaopnjfcgaaGreatDoor.V.I
open Go
set_option maxRecDepth 100000 in
noncomputable def tl : Told := ⟨[], [], (.bool true), [], []⟩
set_option maxRecDepth 1000000 in
theorem tl_ok : ToldOK (memoG E9 tbE 3000 60 30) tl := by
 unfold ToldOK
 kernel_rfl
end Go.Proofs.YtmhhmaopnjfcgaaGreatDoor.V.I
