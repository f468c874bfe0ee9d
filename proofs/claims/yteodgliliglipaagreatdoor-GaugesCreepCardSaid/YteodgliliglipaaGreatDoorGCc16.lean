/-
  GaugesCreep returns true for every input, and leaves its arguments as they were: the row, and the card that ties the listed variables to the program's text. Conditions: none beyond what the row itself says.
-/
import Derived.Test.YteodgliliglipaaGreatDoorGCc4
import Derived.Test.YteodgliliglipaaGreatDoorGCc5
import Derived.Test.YteodgliliglipaaGreatDoorGCc15
namespace Go.Proofs.YteodgliliglipaaGreatDoor.V
open Go Go.RowKit Go.ChangeShapes Go.WideShapes Go.ChangeAt
namespace GaugesCreep
set_option maxRecDepth 100000 in
theorem contract {H : Type} {enc : TypeId × Value → H} {W : World} {base : Nat} {args : Array Value} {ds gs : List (DataW H)} {before : List MemPlace}
  (hval : ∀ (j : Nat) t v, Go.Proofs.Tryz.f8.params[j]? = some t → args[j]? = some v → Value.okWide Go.Proofs.Tryz.prog W .any base t v)
  (hW : DataW.Whole enc Go.Proofs.Tryz.prog Go.Proofs.Tryz.f8.params.toList Rows.gaugesCreepSpec.vars false W args.toList ds gs before) (hL : laidMetH Go.Proofs.Tryz.prog laidL W) :
  Calls Go.Proofs.Tryz.prog 8 args W fun e W' => ∃ v, e = .returned v ∧ Rows.gaugesCreepSpec.post enc Go.Proofs.Tryz.prog Go.Proofs.Tryz.f8 false true false false W args v W' := by
 have hW' := hW
 obtain ⟨p, q, hA0, hV, rfl, hfz, hnd⟩ := hW'
 have hA : DataW.TrodAll enc Go.Proofs.Tryz.prog W 0 (fun _ => true) true Go.Proofs.Tryz.f8.params.toList args.toList ds p := hA0
 rw [Go.Proofs.Tryz.params8] at hA hval
 obtain ⟨v0, vs0, d0, ds0, p0, q0, hargs, rfl, rfl, h0, r0⟩ := trodAll_cons hA
 obtain ⟨v1, vs1, d1, ds1, p1, q1, rfl, rfl, rfl, h1, r1⟩ := trodAll_cons r0
 obtain ⟨rfl, rfl, rfl⟩ := trodAll_nil r1
 obtain rfl : args = #[v0, v1] := Array.ext' hargs
 obtain ⟨rfl, rfl⟩ := trodVars_none hV
 obtain ⟨p, hp, D0⟩ := arg_paper (hval 0 _ v0 rfl rfl) h0
 obtain ⟨n, hn, rfl⟩ := arg_int (hval 1 _ v1 rfl rfl) h1
 have hg := glob_of_laid hL
 refine (ps_top (pGC_of pLives40) (p, n) (FGC_pre hp hn) (vals := [v0, .int .i64 n]) hg ⟨rfl, fun i s v hs hv => ?_⟩).mono ?_
 ·
  match i, hs, hv with
  | 0, hs, hv => simp [FGC] at hs hv; subst hs hv; exact D0
  | 1, hs, hv => simp [FGC] at hs hv; subst hs hv; exact .int
 ·
  rintro e W' ⟨rfl, hfr⟩
  exact ⟨_, rfl, law_post laidOut rfl rfl Go.Proofs.Tryz.underlying4 rfl (by kernel_rfl) hW (below_of_fr hfr)⟩
set_option maxRecDepth 100000 in
theorem lifted (os : Os) (started : os.Started) (H : Type) (enc : TypeId × Value → H) :
  ReturnsInHanded {} Go.Proofs.Tryz.checked os 8 .any (fun w args => (Rows.gaugesCreepSpec.pre enc Go.Proofs.Tryz.prog Go.Proofs.Tryz.f8 [] false w args ∧ laidMetH Go.Proofs.Tryz.prog Rows.gaugesCreepRow.laid w) ∧ sizedMet enc Go.Proofs.Tryz.prog Go.Proofs.Tryz.f8 (OpenSpec.ofChange Rows.gaugesCreepSpec) false w args)
   (Rows.gaugesCreepSpec.post enc Go.Proofs.Tryz.prog Go.Proofs.Tryz.f8 false true false false) := by
 refine returnsInHanded_of_change_and (C := Go.Proofs.Tryz.checked) (X := fun w _ => laidMetH Go.Proofs.Tryz.prog Rows.gaugesCreepRow.laid w) (fun _ _ _ hh h => h.of_heap hh) own started (by kernel_rfl) Go.Proofs.Tryz.func8
  (ChangeSpec.witness_shaped (enc := enc) (C := Go.Proofs.Tryz.checked) (os := os) (X := fun w _ => laidMetH Go.Proofs.Tryz.prog Rows.gaugesCreepRow.laid w) false (World.doorLaid Go.Proofs.Tryz.prog 1000 os) #[.agg #[.int .i64 100, .int .i64 500], .int .i64 1] 8 rfl (World.shaped_of_RefB (by kernel_rfl) (by kernel_rfl)) (by kernel_rfl) (by kernel_rfl) (by kernel_rfl) (door_met os _)) ?_
 intro W base args ds gs before hval hW _ _ hL _
 exact contract hval hW hL
theorem said : Rows.GaugesCreepSaid :=
 OpenClaim.holds_of_wide 8 Go.Proofs.Tryz.f8 rfl rfl rfl rfl rfl rfl rfl ⟨rfl, rfl, rfl, rfl, rfl⟩ rfl rfl rfl rfl rfl nmd Go.Proofs.Tryz.func8 facts inst wrap
  (fun os started H enc _ => lifted os started H enc)
end GaugesCreep
end Go.Proofs.YteodgliliglipaaGreatDoor.V
namespace Go.Proofs.YteodgliliglipaaGreatDoor
theorem gaugesCreep_card : Rows.GaugesCreepCardSaid :=
 Claim7.holds_tied_plain_at .later [] _ _ _ _ V.GaugesCreep.said (fun _ h => by cases h) (by kernel_rfl) (fun _ h => by cases h) gaugesCreep_row_tie rfl ⟨rfl, rfl⟩ (by kernel_rfl) rfl V.GaugesCreep.plain (by kernel_rfl)
#print axioms gaugesCreep_card
end Go.Proofs.YteodgliliglipaaGreatDoor
