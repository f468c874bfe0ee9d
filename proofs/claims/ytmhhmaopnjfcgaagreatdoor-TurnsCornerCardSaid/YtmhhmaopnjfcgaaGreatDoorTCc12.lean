/-
  Parts of the proof: T50d. Conditions: none.
-/
import Derived.Test.YtmhhmaopnjfcgaaGreatDoorTCc10
import Derived.Test.YtmhhmaopnjfcgaaGreatDoorTCc11
namespace Go.Proofs.YtmhhmaopnjfcgaaGreatDoor.V.I
open Go
noncomputable def gsD : List GI := gsC ++ [⟨10, orG (pairG [te1]) (memoG E9 tbC 3000 60 10)⟩]
set_option maxRecDepth 100000
theorem gsDm : GOK E9.P E9.glob 10 (memoG E9 tbC 3000 60 10) := memoG_ok (lm := 3000) (n := 60) E9_ok mixed tbA_ok cs4_ok hsA_ok gsC_ok 10
theorem gsDt : ∀ x ∈ [te1], ToldOK (memoG E9 tbC 3000 60 10) x := told_cons (g := memoG E9 tbC 3000 60 10) (x := te1) (l := []) te1_ok (told_nil)
theorem gsD_ok : MGOK E9.P E9.glob gsD := mgOK_one (orG_ok (pairG_ok gsDm gsDt) gsDm) gsC_ok
noncomputable def tbD : Tr FJ := mkTab tbA cs4 hsA gsD
end Go.Proofs.YtmhhmaopnjfcgaaGreatDoor.V.I
