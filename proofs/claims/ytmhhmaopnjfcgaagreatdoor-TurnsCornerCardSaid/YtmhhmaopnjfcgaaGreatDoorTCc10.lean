/-
  Parts of the proof: T50c. Conditions: none.
-/
import Derived.Test.YtmhhmaopnjfcgaaGreatDoorTCc8
import Derived.Test.YtmhhmaopnjfcgaaGreatDoorTCc9
namespace Go.Proofs.YtmhhmaopnjfcgaaGreatDoor.V.I
open Go
noncomputable def gsC : List GI := gs2 ++ [⟨28, orG (pairG [te0]) (memoG E9 tbg2 3000 60 28)⟩]
set_option maxRecDepth 100000
theorem gsCm : GOK E9.P E9.glob 28 (memoG E9 tbg2 3000 60 28) := memoG_ok (lm := 3000) (n := 60) E9_ok mixed tbA_ok cs4_ok hsA_ok gs2_ok 28
theorem gsCt : ∀ x ∈ [te0], ToldOK (memoG E9 tbg2 3000 60 28) x := told_cons (g := memoG E9 tbg2 3000 60 28) (x := te0) (l := []) te0_ok (told_nil)
theorem gsC_ok : MGOK E9.P E9.glob gsC := mgOK_one (orG_ok (pairG_ok gsCm gsCt) gsCm) gs2_ok
noncomputable def tbC : Tr FJ := mkTab tbA cs4 hsA gsC
end Go.Proofs.YtmhhmaopnjfcgaaGreatDoor.V.I
