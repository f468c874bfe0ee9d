/-
  Parts of the proof: T50e. Conditions: none.
-/
import Derived.Test.YtmhhmaopnjfcgaaGreatDoorTCc12
import Derived.Test.YtmhhmaopnjfcgaaGreatDoorTCc13
import Derived.Test.YtmhhmaopnjfcgaaGreatDoorTCc14
import Derived.Test.YtmhhmaopnjfcgaaGreatDoorTCc15
import Derived.Test.YtmhhmaopnjfcgaaGreatDoorTCc16
import Derived.Test.YtmhhmaopnjfcgaaGreatDoorTCc17
import Derived.Test.YtmhhmaopnjfcgaaGreatDoorTCc18
namespace Go.Proofs.YtmhhmaopnjfcgaaGreatDoor.V.I
open Go
noncomputable def gsE : List GI := gsD ++ [⟨27, orG (pairG [tf1, tf2, tf3, tf4, tf5, tf6]) (memoG E9 tbD 3000 60 27)⟩]
set_option maxRecDepth 100000
theorem gsEm : GOK E9.P E9.glob 27 (memoG E9 tbD 3000 60 27) := memoG_ok (lm := 3000) (n := 60) E9_ok mixed tbA_ok cs4_ok hsA_ok gsD_ok 27
theorem gsEt : ∀ x ∈ [tf1, tf2, tf3, tf4, tf5, tf6], ToldOK (memoG E9 tbD 3000 60 27) x := told_cons (g := memoG E9 tbD 3000 60 27) (x := tf1) (l := [tf2,tf3,tf4,tf5,tf6]) tf1_ok (told_cons (g := memoG E9 tbD 3000 60 27) (x := tf2) (l := [tf3,tf4,tf5,tf6]) tf2_ok (told_cons (g := memoG E9 tbD 3000 60 27) (x := tf3) (l := [tf4,tf5,tf6]) tf3_ok (told_cons (g := memoG E9 tbD 3000 60 27) (x := tf4) (l := [tf5,tf6]) tf4_ok (told_cons (g := memoG E9 tbD 3000 60 27) (x := tf5) (l := [tf6]) tf5_ok (told_cons (g := memoG E9 tbD 3000 60 27) (x := tf6) (l := []) tf6_ok (told_nil))))))
theorem gsE_ok : MGOK E9.P E9.glob gsE := mgOK_one (orG_ok (pairG_ok gsEm gsEt) gsEm) gsD_ok
noncomputable def tbE : Tr FJ := mkTab tbA cs4 hsA gsE
end Go.Proofs.YtmhhmaopnjfcgaaGreatDoor.V.I
