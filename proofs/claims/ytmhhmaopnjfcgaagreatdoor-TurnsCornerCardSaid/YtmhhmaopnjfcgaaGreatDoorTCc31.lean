/-
  Parts of the proof: T51 L12 R3. Conditions: none.
-/
import Derived.Test.YtmhhmaopnjfcgaaGreatDoorTCc3
import Derived.Test.YtmhhmaopnjfcgaaGreatDoorTCc5
import Derived.Test.YtmhhmaopnjfcgaaGreatDoorTCc27
import Derived.Test.YtmhhmaopnjfcgaaGreatDoorTCc28
import Derived.Test.YtmhhmaopnjfcgaaGreatDoorTCc29
import Derived.Test.YtmhhmaopnjfcgaaGreatDoorTCc30
import Derived.MakeChecks
namespace Go.Proofs.YtmhhmaopnjfcgaaGreatDoor.V.I
open Go
theorem runs_ok : ∀ m : Nat, m < 256 → okT (runJ E9 (mkTab tbA cs4 hsA gsG) 3000 60 7 [.int .u8 (Int.ofNat m)] .lf 0) = true := fun m hm => by
 by_cases h1 : m < 64
 ·
  exact okAll_spec 64 0 run51a m (by omega) (by omega)
 by_cases h2 : m < 128
 ·
  exact okAll_spec 64 64 run51b m (by omega) (by omega)
 by_cases h3 : m < 192
 ·
  exact okAll_spec 64 128 run51c m (by omega) (by omega)
 ·
  exact okAll_spec 64 192 run51d m (by omega) (by omega)
end Go.Proofs.YtmhhmaopnjfcgaaGreatDoor.V.I
namespace Go.Proofs.YtmhhmaopnjfcgaaGreatDoor.V
open Go
def FTC : Fam := ⟨Int, fun h => [.int .u8 h], fun h => inK .u8 h, fun _ => .bool true⟩
theorem FTC_pre {h : Int} (hh : inK .u8 h) : FTC.pre h := hh
abbrev nTC : FuncId := 7
theorem pTC : PS nTC (topK FTC) := by
 have := I.psound_arg (E := I.E9) (lm := 3000) I.E9_ok mixed I.tbA_ok I.cs4_ok I.hsA_ok I.gsG_ok (f := nTC) ⟨_, Go.Proofs.Tryz.func7, rfl, rfl⟩ (n := 60) I.runs_ok
 refine ⟨this.1, fun A w args vals pre s h1 h2 h3 h4 h5 => this.2 A w args vals pre s h1 h2 h3 ?_ h5⟩
 unfold topK at h4
 split at h4
 ·
  rename_i hex
  obtain ⟨(i : Int), (hi : (0 : Int) ≤ i ∧ i ≤ 255), rfl⟩ := hex
  have h4 := h4
  show (if (0 : Int) ≤ i ∧ i < 256 then some (True, SV.bool true) else none) = some (pre, s)
  rw [if_pos ⟨hi.1, by omega⟩]
  exact h4
 ·
  cases h4
end Go.Proofs.YtmhhmaopnjfcgaaGreatDoor.V
namespace Go.Proofs.YtmhhmaopnjfcgaaGreatDoor.V
open Go Go.RowKit Go.ChangeShapes Go.WideShapes Go.ChangeAt
abbrev laidL : List (String × DataW Unit) := [("crimp/moves.turns", Rows.laid_crimp_moves_turns), ("crimp/cells.quarters", Rows.laid_crimp_cells_quarters)]
set_option maxRecDepth 100000 in
theorem glob_of_laid {W : World} (h : laidMetH Go.Proofs.Tryz.prog laidL W) : ∀ g t, glob0 g = some t → t.pure = true ∧ D W (fun _ => False) Nobody t (.pointer (some ⟨g, 0, none⟩)) := by
 have hA : ∀ b, ¬ (fun _ : Nat => False) b := fun _ h => h
 rw [Go.MakeChecks.laidMetH_plain _ _ _ (by kernel_rfl)] at h
 obtain ⟨ps, ⟨g0, t0, cs0, f0, p0, q0, hg0, ht0, hv0, hd0, ⟨g1, t1, cs1, f1, p1, q1, hg1, ht1, hv1, hd1, _, _⟩, _⟩, _, _⟩ := h
 have r0 := tab_of_laid (A := fun _ => False) hA (sz := 4) (m := 8) (f := turnsRow) hg0 ht0 hv0 hd0 (g0 := 1) (by kernel_rfl) (by kernel_rfl) (by kernel_rfl) (by omega) (by kernel_rfl)
 have r1 := tab_of_laid (A := fun _ => False) hA (sz := 17) (m := 4) (f := quartersRow) hg1 ht1 hv1 hd1 (g0 := 2) (by kernel_rfl) (by kernel_rfl) (by kernel_rfl) (by omega) (by kernel_rfl)
 intro g t hgt
 unfold glob0 at hgt
 split at hgt
 ·
  cases hgt; exact r0
 ·
  cases hgt; exact r1
 ·
  cases hgt
section
variable {H : Type} {enc : TypeId × Value → H} {w : World} {base : Nat} {sp : Nat → Bool} {held : Bool} {fuel : Nat} {cs : List Value} {x : DataW H × List MemPlace}
set_option maxRecDepth 100000 in
theorem arg_u8 {v : Value} {d : DataW H} {ps : List MemPlace} (hok : Value.okWide Go.Proofs.Tryz.prog w .any base 5 v) (h : DataW.Trod enc Go.Proofs.Tryz.prog w 0 sp held 5 v d ps) : ∃ n, inK .u8 n ∧ v = .int .u8 n := by
 obtain ⟨n, e, _, _, hw⟩ := open_int Go.Proofs.Tryz.underlying5 hok h
 exact ⟨n, inK_of_wf hw, e⟩
end
end Go.Proofs.YtmhhmaopnjfcgaaGreatDoor.V
