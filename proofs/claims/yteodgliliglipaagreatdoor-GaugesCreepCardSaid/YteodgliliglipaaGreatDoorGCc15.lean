/-
  Parts of the proof: T40m. Conditions: none.
-/
import Derived.Test.YteodgliliglipaaGreatDoorGCc5
import Derived.Test.YteodgliliglipaaGreatDoorGCc12
import Derived.Test.YteodgliliglipaaGreatDoorGCc13
import Derived.Test.YteodgliliglipaaGreatDoorGCc14
namespace Go.Proofs.YteodgliliglipaaGreatDoor.V.I
open Go
noncomputable def gsM : List GI := gsC ++ [⟨29, orG (pairG [td1, td2]) (memoG E9 tbC 3000 60 29)⟩]
set_option maxRecDepth 100000
theorem mgM_ok : GOK E9.P E9.glob 29 (memoG E9 tbC 3000 60 29) := memoG_ok (lm := 3000) (n := 60) E9_ok mixed tbA_ok cs4_ok hsA_ok gsC_ok 29
theorem toldM_ok : ∀ x ∈ [td1, td2], ToldOK (memoG E9 tbC 3000 60 29) x := told_cons (g := memoG E9 tbC 3000 60 29) (x := td1) (l := [td2]) td1_ok (told_cons (g := memoG E9 tbC 3000 60 29) (x := td2) (l := []) td2_ok (told_nil))
theorem gsM_ok : MGOK E9.P E9.glob gsM := mgOK_one (orG_ok (pairG_ok mgM_ok toldM_ok) mgM_ok) gsC_ok
noncomputable def tbM : Tr FJ := mkTab tbA cs4 hsA gsM
set_option maxRecDepth 1000000 in
theorem runM : okT (runJ E9 tbM 3000 60 26 [] .lf 0) = true := by kernel_rfl
end Go.Proofs.YteodgliliglipaaGreatDoor.V.I
namespace Go.Proofs.YteodgliliglipaaGreatDoor.V
open Go
theorem pLives40 : PS nLives40 kLives40 := by
 have := I.psound_true (E := I.E9) (lm := 3000) I.E9_ok mixed I.tbA_ok I.cs4_ok I.hsA_ok I.gsM_ok (f := 26) ⟨_, Go.Proofs.Tryz.func26, rfl, rfl⟩ (n := 60) I.runM
 refine ⟨this.1, fun A w args vals pre s h1 h2 h3 h4 h5 => this.2 A w args vals pre s h1 h2 h3 ?_ h5⟩
 unfold kLives40 at h4
 split at h4
 ·
  exact h4
 ·
  cases h4
end Go.Proofs.YteodgliliglipaaGreatDoor.V
