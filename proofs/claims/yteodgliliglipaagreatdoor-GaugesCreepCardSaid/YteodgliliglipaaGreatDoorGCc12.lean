/-
  Parts of the proof: T40c. Conditions: none.
-/
import Derived.Test.YteodgliliglipaaGreatDoorGCc8
import Derived.Test.YteodgliliglipaaGreatDoorGCc9
import Derived.Test.YteodgliliglipaaGreatDoorGCc10
import Derived.Test.YteodgliliglipaaGreatDoorGCc11
namespace Go.Proofs.YteodgliliglipaaGreatDoor.V.I
open Go
noncomputable def gsC : List GI := gs2 ++ [⟨15, orG (pairG [tc1, tc2, tc3]) (memoG E9 tbg2 3000 60 15)⟩]
set_option maxRecDepth 100000
theorem gsCm : GOK E9.P E9.glob 15 (memoG E9 tbg2 3000 60 15) := memoG_ok (lm := 3000) (n := 60) E9_ok mixed tbA_ok cs4_ok hsA_ok gs2_ok 15
theorem gsCt : ∀ x ∈ [tc1, tc2, tc3], ToldOK (memoG E9 tbg2 3000 60 15) x := told_cons (g := memoG E9 tbg2 3000 60 15) (x := tc1) (l := [tc2,tc3]) tc1_ok (told_cons (g := memoG E9 tbg2 3000 60 15) (x := tc2) (l := [tc3]) tc2_ok (told_cons (g := memoG E9 tbg2 3000 60 15) (x := tc3) (l := []) tc3_ok (told_nil)))
theorem gsC_ok : MGOK E9.P E9.glob gsC := mgOK_one (orG_ok (pairG_ok gsCm gsCt) gsCm) gs2_ok
noncomputable def tbC : Tr FJ := mkTab tbA cs4 hsA gsC
end Go.Proofs.YteodgliliglipaaGreatDoor.V.I
