/-
  FormsAlike returns true for every input, and leaves its arguments as they were: the row, and the card that ties the listed variables to the program's text. Conditions: none beyond what the row itself says.
-/
import Derived.Test.YthfkpmobmnfgcaaDoorBc9
import Derived.Test.YthfkpmobmnfgcaaDoorK8c1
import Derived.Test.YthfkpmobmnfgcaaDoorCards
import Derived.Test.YthfkpmobmnfgcaaDoorTie
import Derived.SevenTiedAt
namespace Go.Proofs.YthfkpmobmnfgcaaDoor.V
open Go Go.RowKit Go.ChangeShapes Go.WideShapes Go.ChangeAt

theorem FLAlike_pre {x y : PV} {w : Int} (hx : x.ok) (hy : y.ok) (hw : inK .u8 w) : FLAlike.pre (x, y, w) := ⟨hx, hy, hw⟩
namespace FormsAlike
theorem own : ownKnob Go.Proofs.Tryd.prog.godebug = none := by kernel_rfl
theorem door_met (os : Os) (args : Array Value) : laidMetH Go.Proofs.Tryd.prog Rows.formsAlikeRow.laid ((World.doorLaid Go.Proofs.Tryd.prog 1000 os).forCall (fun _ _ => 0) ⟨#[], args, []⟩).memory :=
  laidMetH_of_parts3 (fuel := 8) (laidMet_of_run' 8 (by kernel_rfl) (by kernel_rfl)) (by kernel_rfl) (by kernel_rfl)

set_option maxRecDepth 100000 in
/-- The call, for every argument that can be read. -/
theorem contract {H : Type} {enc : TypeId × Value → H} {W : World} {base : Nat} {args : Array Value} {ds gs : List (DataW H)} {before : List MemPlace}
    (hval : ∀ (j : Nat) t v, Go.Proofs.Tryd.f6.params[j]? = some t → args[j]? = some v → Value.okWide Go.Proofs.Tryd.prog W .any base t v)
    (hW : DataW.Whole enc Go.Proofs.Tryd.prog Go.Proofs.Tryd.f6.params.toList Rows.formsAlikeSpec.vars false W args.toList ds gs before) (hL : laidMetH Go.Proofs.Tryd.prog laidL W) :
    Calls Go.Proofs.Tryd.prog 6 args W fun e W' => ∃ v, e = .returned v ∧ Rows.formsAlikeSpec.post enc Go.Proofs.Tryd.prog Go.Proofs.Tryd.f6 false true false false W args v W' := by
  have hW' := hW
  obtain ⟨p, q, hA0, hV, rfl, hfz, hnd⟩ := hW'
  have hA : DataW.TrodAll enc Go.Proofs.Tryd.prog W 0 (fun _ => true) true Go.Proofs.Tryd.f6.params.toList args.toList ds p := hA0
  rw [Go.Proofs.Tryd.params6] at hA hval
  obtain ⟨v0, vs0, d0, ds0, p0, q0, hargs, rfl, rfl, h0, r0⟩ := trodAll_cons hA
  obtain ⟨v1, vs1, d1, ds1, p1, q1, rfl, rfl, rfl, h1, r1⟩ := trodAll_cons r0
  obtain ⟨v2, vs2, d2, ds2, p2, q2, rfl, rfl, rfl, h2, r2⟩ := trodAll_cons r1
  obtain ⟨rfl, rfl, rfl⟩ := trodAll_nil r2
  obtain rfl : args = #[v0, v1, v2] := Array.ext' hargs
  obtain ⟨rfl, rfl⟩ := trodVars_none hV
  obtain ⟨x, hx, D0⟩ := arg_P33 (hval 0 _ v0 rfl rfl) h0
  obtain ⟨y, hy, D1⟩ := arg_P33 (hval 1 _ v1 rfl rfl) h1
  obtain ⟨w, hw, rfl⟩ := arg_u8 (hval 2 _ v2 rfl rfl) h2
  have hg := glob_of_laid hL
  refine (top lAlike lAlike_ok [] (by simp) (fun _ => false) FLAlike _ (fun _ => rfl) FLAlike_le (fun _ => by show 3 ≤ _; decide) Go.Proofs.Tryd.func6 (by kernel_rfl) (by kernel_rfl) (by kernel_rfl) wLAlike (x, y, w) (FLAlike_pre hx hy hw) (vals := [v0, v1, .int .u8 w]) hg ⟨rfl, fun i s v hs hv => ?_⟩).mono ?_
  · match i, hs, hv with
    | 0, hs, hv => simp [FLAlike] at hs hv; subst hs hv; exact D0
    | 1, hs, hv => simp [FLAlike] at hs hv; subst hs hv; exact D1
    | 2, hs, hv => simp [FLAlike] at hs hv; subst hs hv; exact .int
  · rintro e W' ⟨rfl, hfr⟩
    exact ⟨_, rfl, law_post laidOut rfl rfl Go.Proofs.Tryd.underlying4 rfl (by kernel_rfl) hW (below_of_fr hfr)⟩

set_option maxRecDepth 100000 in
theorem lifted (os : Os) (started : os.Started) (H : Type) (enc : TypeId × Value → H) :
    ReturnsInHanded {} Go.Proofs.Tryd.checked os 6 .any (fun w args => (Rows.formsAlikeSpec.pre enc Go.Proofs.Tryd.prog Go.Proofs.Tryd.f6 [] false w args ∧ laidMetH Go.Proofs.Tryd.prog Rows.formsAlikeRow.laid w) ∧ sizedMet enc Go.Proofs.Tryd.prog Go.Proofs.Tryd.f6 (OpenSpec.ofChange Rows.formsAlikeSpec) false w args)
      (Rows.formsAlikeSpec.post enc Go.Proofs.Tryd.prog Go.Proofs.Tryd.f6 false true false false) := by
  refine returnsInHanded_of_change_and (C := Go.Proofs.Tryd.checked) (X := fun w _ => laidMetH Go.Proofs.Tryd.prog Rows.formsAlikeRow.laid w) (fun _ _ _ hh h => h.of_heap hh) own started (by kernel_rfl) Go.Proofs.Tryd.func6
    (ChangeSpec.witness_shaped (enc := enc) (C := Go.Proofs.Tryd.checked) (os := os) (X := fun w _ => laidMetH Go.Proofs.Tryd.prog Rows.formsAlikeRow.laid w) false (World.doorLaid Go.Proofs.Tryd.prog 1000 os) #[.agg #[.int .u8 0, .int .u8 0, .slice none 0 0], .agg #[.int .u8 0, .int .u8 0, .slice none 0 0], .int .u8 0] 8 rfl (World.shaped_of_RefB (by kernel_rfl) (by kernel_rfl)) (by kernel_rfl) (by kernel_rfl) (by kernel_rfl) (door_met os _)) ?_
  intro W base args ds gs before hval hW _ _ hL _
  exact contract hval hW hL

theorem said : Rows.FormsAlikeSaid :=
  OpenClaim.holds_of_wide 6 Go.Proofs.Tryd.f6 rfl rfl rfl rfl rfl rfl rfl ⟨rfl, rfl, rfl, rfl, rfl⟩ rfl rfl rfl rfl rfl (by kernel_rfl) Go.Proofs.Tryd.func6 (by kernel_rfl)
    (of_decide_eq_true (by kernel_rfl)) (by unfold Func.isWrapper; first | (rw [if_pos (by decide +kernel)]; kernel_rfl) | (rw [if_neg (by decide +kernel)]; exact ⟨rfl, rfl⟩))
    (fun os started H enc _ => lifted os started H enc)

set_option maxRecDepth 100000 in
theorem plain (f : FuncId) (fn : Func) (hf : Go.Proofs.YthfkpmobmnfgcaaDoor.Tryd.pinned.checked.prog.funcNamed "crimp/crimplaw33.FormsAlike" = some f) (hfn : Go.Proofs.YthfkpmobmnfgcaaDoor.Tryd.pinned.checked.prog.funcs[f]? = some fn) :
    false = Go.Proofs.YthfkpmobmnfgcaaDoor.Tryd.pinned.checked.prog.looks [] ∧ ∀ (j : Nat) t, fn.params[j]? = some t → Go.Proofs.YthfkpmobmnfgcaaDoor.Tryd.pinned.checked.prog.wantsStandIn t = false := by
  obtain rfl : f = 6 := Option.some.inj ((show Go.Proofs.Tryd.prog.funcNamed "crimp/crimplaw33.FormsAlike" = some 6 by kernel_rfl).symm.trans hf) |>.symm
  obtain rfl : fn = Go.Proofs.Tryd.f6 := (Option.some.inj (Go.Proofs.Tryd.func6.symm.trans hfn)).symm
  refine ⟨by kernel_rfl, fun j t ht => ?_⟩
  rw [Go.Proofs.Tryd.params6] at ht
  have hm := Array.mem_of_getElem? ht
  have hall : (#[24, 24, 5].all fun u => !Go.Proofs.Tryd.prog.wantsStandIn u) = true := by kernel_rfl
  have := Array.all_eq_true'.1 hall t hm
  exact (show Go.Proofs.Tryd.prog.wantsStandIn t = false by simpa using this)
end FormsAlike
end Go.Proofs.YthfkpmobmnfgcaaDoor.V

namespace Go.Proofs.YthfkpmobmnfgcaaDoor
/-- The card of FormsAlike. -/
theorem formsAlike_card : Rows.FormsAlikeCardSaid :=
  Claim7.holds_tied_plain_at .later [] _ _ _ _ V.FormsAlike.said (fun _ h => by cases h) (by kernel_rfl) (fun _ h => by cases h) formsAlike_row_tie rfl ⟨rfl, rfl⟩ (by kernel_rfl) rfl V.FormsAlike.plain (by kernel_rfl)
#print axioms formsAlike_card
end Go.Proofs.YthfkpmobmnfgcaaDoor

