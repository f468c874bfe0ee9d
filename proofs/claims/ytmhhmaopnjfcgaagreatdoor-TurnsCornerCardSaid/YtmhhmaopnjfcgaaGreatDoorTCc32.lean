/-
  TurnsCorner returns true for every input, and leaves its arguments as they were: the row, and the card that ties the listed variables to the program's text. Conditions: none beyond what the row itself says.
-/
import Derived.Test.YtmhhmaopnjfcgaaGreatDoorTCc4
import Derived.Test.YtmhhmaopnjfcgaaGreatDoorTCc31
namespace Go.Proofs.YtmhhmaopnjfcgaaGreatDoor.V
open Go Go.RowKit Go.ChangeShapes Go.WideShapes Go.ChangeAt
namespace TurnsCorner
set_option maxRecDepth 100000 in
theorem contract {H : Type} {enc : TypeId × Value → H} {W : World} {base : Nat} {args : Array Value} {ds gs : List (DataW H)} {before : List MemPlace}
  (hval : ∀ (j : Nat) t v, Go.Proofs.Tryz.f7.params[j]? = some t → args[j]? = some v → Value.okWide Go.Proofs.Tryz.prog W .any base t v)
  (hW : DataW.Whole enc Go.Proofs.Tryz.prog Go.Proofs.Tryz.f7.params.toList Rows.turnsCornerSpec.vars false W args.toList ds gs before) (hL : laidMetH Go.Proofs.Tryz.prog laidL W) :
  Calls Go.Proofs.Tryz.prog 7 args W fun e W' => ∃ v, e = .returned v ∧ Rows.turnsCornerSpec.post enc Go.Proofs.Tryz.prog Go.Proofs.Tryz.f7 false true false false W args v W' := by
 have hW' := hW
 obtain ⟨p, q, hA0, hV, rfl, hfz, hnd⟩ := hW'
 have hA : DataW.TrodAll enc Go.Proofs.Tryz.prog W 0 (fun _ => true) true Go.Proofs.Tryz.f7.params.toList args.toList ds p := hA0
 rw [Go.Proofs.Tryz.params7] at hA hval
 obtain ⟨v0, vs0, d0, ds0, p0, q0, hargs, rfl, rfl, h0, r0⟩ := trodAll_cons hA
 obtain ⟨rfl, rfl, rfl⟩ := trodAll_nil r0
 obtain rfl : args = #[v0] := Array.ext' hargs
 obtain ⟨rfl, rfl⟩ := trodVars_none hV
 obtain ⟨how, hhow, rfl⟩ := arg_u8 (hval 0 _ v0 rfl rfl) h0
 have hg := glob_of_laid hL
 refine (ps_top pTC (how) (FTC_pre hhow) (vals := [.int .u8 how]) hg ⟨rfl, fun i s v hs hv => ?_⟩).mono ?_
 ·
  match i, hs, hv with
  | 0, hs, hv => simp [FTC] at hs hv; subst hs hv; exact .int
 ·
  rintro e W' ⟨rfl, hfr⟩
  exact ⟨_, rfl, law_post laidOut rfl rfl Go.Proofs.Tryz.underlying4 rfl (by kernel_rfl) hW (below_of_fr hfr)⟩
set_option maxRecDepth 100000 in
theorem lifted (os : Os) (started : os.Started) (H : Type) (enc : TypeId × Value → H) :
  ReturnsInHanded {} Go.Proofs.Tryz.checked os 7 .any (fun w args => (Rows.turnsCornerSpec.pre enc Go.Proofs.Tryz.prog Go.Proofs.Tryz.f7 [] false w args ∧ laidMetH Go.Proofs.Tryz.prog Rows.turnsCornerRow.laid w) ∧ sizedMet enc Go.Proofs.Tryz.prog Go.Proofs.Tryz.f7 (OpenSpec.ofChange Rows.turnsCornerSpec) false w args)
   (Rows.turnsCornerSpec.post enc Go.Proofs.Tryz.prog Go.Proofs.Tryz.f7 false true false false) := by
 refine returnsInHanded_of_change_and (C := Go.Proofs.Tryz.checked) (X := fun w _ => laidMetH Go.Proofs.Tryz.prog Rows.turnsCornerRow.laid w) (fun _ _ _ hh h => h.of_heap hh) own started (by kernel_rfl) Go.Proofs.Tryz.func7
  (ChangeSpec.witness_shaped (enc := enc) (C := Go.Proofs.Tryz.checked) (os := os) (X := fun w _ => laidMetH Go.Proofs.Tryz.prog Rows.turnsCornerRow.laid w) false (World.doorLaid Go.Proofs.Tryz.prog 1000 os) #[.int .u8 0] 8 rfl (World.shaped_of_RefB (by kernel_rfl) (by kernel_rfl)) (by kernel_rfl) (by kernel_rfl) (by kernel_rfl) (door_met os _)) ?_
 intro W base args ds gs before hval hW _ _ hL _
 exact contract hval hW hL
theorem said : Rows.TurnsCornerSaid :=
 OpenClaim.holds_of_wide 7 Go.Proofs.Tryz.f7 rfl rfl rfl rfl rfl rfl rfl ⟨rfl, rfl, rfl, rfl, rfl⟩ rfl rfl rfl rfl rfl nmd Go.Proofs.Tryz.func7 facts inst wrap
  (fun os started H enc _ => lifted os started H enc)
end TurnsCorner
end Go.Proofs.YtmhhmaopnjfcgaaGreatDoor.V
namespace Go.Proofs.YtmhhmaopnjfcgaaGreatDoor
theorem turnsCorner_card : Rows.TurnsCornerCardSaid :=
 Claim7.holds_tied_plain_at .later [] _ _ _ _ V.TurnsCorner.said (fun _ h => by cases h) (by kernel_rfl) (fun _ h => by cases h) turnsCorner_row_tie rfl ⟨rfl, rfl⟩ (by kernel_rfl) rfl V.TurnsCorner.plain (by kernel_rfl)
#print axioms turnsCorner_card
end Go.Proofs.YtmhhmaopnjfcgaaGreatDoor
