/-
  Parts of the proof: T50f. Conditions: none.
-/
import Derived.Test.YtmhhmaopnjfcgaaGreatDoorTCc19
import Derived.Test.YtmhhmaopnjfcgaaGreatDoorTCc20
namespace Go.Proofs.YtmhhmaopnjfcgaaGreatDoor.V.I
open Go
noncomputable def gsF : List GI := gsE ++ [⟨30, orG (pairG [tl]) (memoG E9 tbE 3000 60 30)⟩]
set_option maxRecDepth 100000
theorem gsFm : GOK E9.P E9.glob 30 (memoG E9 tbE 3000 60 30) := memoG_ok (lm := 3000) (n := 60) E9_ok mixed tbA_ok cs4_ok hsA_ok gsE_ok 30
theorem gsFt : ∀ x ∈ [tl], ToldOK (memoG E9 tbE 3000 60 30) x := told_cons (g := memoG E9 tbE 3000 60 30) (x := tl) (l := []) tl_ok (told_nil)
theorem gsF_ok : MGOK E9.P E9.glob gsF := mgOK_one (orG_ok (pairG_ok gsFm gsFt) gsFm) gsE_ok
end Go.Proofs.YtmhhmaopnjfcgaaGreatDoor.V.I
