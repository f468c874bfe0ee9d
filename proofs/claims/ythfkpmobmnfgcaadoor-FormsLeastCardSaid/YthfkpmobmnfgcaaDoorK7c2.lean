/-
  FormsLeast returns true for every input, and leaves its arguments as they were: the row, and the card that ties the listed variables to the program's text. Conditions: none beyond what the row itself says.
-/
import Derived.Test.YthfkpmobmnfgcaaDoorBc9
import Derived.Test.YthfkpmobmnfgcaaDoorK7c1
import Derived.Test.YthfkpmobmnfgcaaDoorCards
import Derived.Test.YthfkpmobmnfgcaaDoorTie
import Derived.SevenTiedAt
namespace Go.Proofs.YthfkpmobmnfgcaaDoor.V
open Go Go.RowKit Go.ChangeShapes Go.WideShapes Go.ChangeAt

theorem FLLeast_pre {x : PV} (hx : x.ok) : FLLeast.pre x := hx
namespace FormsLeast
theorem own : ownKnob Go.Proofs.Tryd.prog.godebug = none := by kernel_rfl
theorem door_met (os : Os) (args : Array Value) : laidMetH Go.Proofs.Tryd.prog Rows.formsLeastRow.laid ((World.doorLaid Go.Proofs.Tryd.prog 1000 os).forCall (fun _ _ => 0) ⟨#[], args, []⟩).memory :=
  laidMetH_of_parts3 (fuel := 8) (laidMet_of_run' 8 (by kernel_rfl) (by kernel_rfl)) (by kernel_rfl) (by kernel_rfl)

set_option maxRecDepth 100000 in
/-- The call, for every argument that can be read. -/
theorem contract {H : Type} {enc : TypeId × Value → H} {W : World} {base : Nat} {args : Array Value} {ds gs : List (DataW H)} {before : List MemPlace}
    (hval : ∀ (j : Nat) t v, Go.Proofs.Tryd.f4.params[j]? = some t → args[j]? = some v → Value.okWide Go.Proofs.Tryd.prog W .any base t v)
    (hW : DataW.Whole enc Go.Proofs.Tryd.prog Go.Proofs.Tryd.f4.params.toList Rows.formsLeastSpec.vars false W args.toList ds gs before) (hL : laidMetH Go.Proofs.Tryd.prog laidL W) :
    Calls Go.Proofs.Tryd.prog 4 args W fun e W' => ∃ v, e = .returned v ∧ Rows.formsLeastSpec.post enc Go.Proofs.Tryd.prog Go.Proofs.Tryd.f4 false true false false W args v W' := by
  have hW' := hW
  obtain ⟨p, q, hA0, hV, rfl, hfz, hnd⟩ := hW'
  have hA : DataW.TrodAll enc Go.Proofs.Tryd.prog W 0 (fun _ => true) true Go.Proofs.Tryd.f4.params.toList args.toList ds p := hA0
  rw [Go.Proofs.Tryd.params4] at hA hval
  obtain ⟨v0, vs0, d0, ds0, p0, q0, hargs, rfl, rfl, h0, r0⟩ := trodAll_cons hA
  obtain ⟨rfl, rfl, rfl⟩ := trodAll_nil r0
  obtain rfl : args = #[v0] := Array.ext' hargs
  obtain ⟨rfl, rfl⟩ := trodVars_none hV
  obtain ⟨x, hx, D0⟩ := arg_P33 (hval 0 _ v0 rfl rfl) h0
  have hg := glob_of_laid hL
  refine (top lLeast lLeast_ok [] (by simp) (fun _ => false) FLLeast _ (fun _ => rfl) FLLeast_le (fun _ => by show 1 ≤ _; decide) Go.Proofs.Tryd.func4 (by kernel_rfl) (by kernel_rfl) (by kernel_rfl) wLLeast (x) (FLLeast_pre hx) (vals := [v0]) hg ⟨rfl, fun i s v hs hv => ?_⟩).mono ?_
  · match i, hs, hv with
    | 0, hs, hv => simp [FLLeast] at hs hv; subst hs hv; exact D0
  · rintro e W' ⟨rfl, hfr⟩
    exact ⟨_, rfl, law_post laidOut rfl rfl Go.Proofs.Tryd.underlying4 rfl (by kernel_rfl) hW (below_of_fr hfr)⟩

set_option maxRecDepth 100000 in
theorem lifted (os : Os) (started : os.Started) (H : Type) (enc : TypeId × Value → H) :
    ReturnsInHanded {} Go.Proofs.Tryd.checked os 4 .any (fun w args => (Rows.formsLeastSpec.pre enc Go.Proofs.Tryd.prog Go.Proofs.Tryd.f4 [] false w args ∧ laidMetH Go.Proofs.Tryd.prog Rows.formsLeastRow.laid w) ∧ sizedMet enc Go.Proofs.Tryd.prog Go.Proofs.Tryd.f4 (OpenSpec.ofChange Rows.formsLeastSpec) false w args)
      (Rows.formsLeastSpec.post enc Go.Proofs.Tryd.prog Go.Proofs.Tryd.f4 false true false false) := by
  refine returnsInHanded_of_change_and (C := Go.Proofs.Tryd.checked) (X := fun w _ => laidMetH Go.Proofs.Tryd.prog Rows.formsLeastRow.laid w) (fun _ _ _ hh h => h.of_heap hh) own started (by kernel_rfl) Go.Proofs.Tryd.func4
    (ChangeSpec.witness_shaped (enc := enc) (C := Go.Proofs.Tryd.checked) (os := os) (X := fun w _ => laidMetH Go.Proofs.Tryd.prog Rows.formsLeastRow.laid w) false (World.doorLaid Go.Proofs.Tryd.prog 1000 os) #[.agg #[.int .u8 0, .int .u8 0, .slice none 0 0]] 8 rfl (World.shaped_of_RefB (by kernel_rfl) (by kernel_rfl)) (by kernel_rfl) (by kernel_rfl) (by kernel_rfl) (door_met os _)) ?_
  intro W base args ds gs before hval hW _ _ hL _
  exact contract hval hW hL

theorem said : Rows.FormsLeastSaid :=
  OpenClaim.holds_of_wide 4 Go.Proofs.Tryd.f4 rfl rfl rfl rfl rfl rfl rfl ⟨rfl, rfl, rfl, rfl, rfl⟩ rfl rfl rfl rfl rfl (by kernel_rfl) Go.Proofs.Tryd.func4 (by kernel_rfl)
    (of_decide_eq_true (by kernel_rfl)) (by unfold Func.isWrapper; first | (rw [if_pos (by decide +kernel)]; kernel_rfl) | (rw [if_neg (by decide +kernel)]; exact ⟨rfl, rfl⟩))
    (fun os started H enc _ => lifted os started H enc)

set_option maxRecDepth 100000 in
theorem plain (f : FuncId) (fn : Func) (hf : Go.Proofs.YthfkpmobmnfgcaaDoor.Tryd.pinned.checked.prog.funcNamed "crimp/crimplaw33.FormsLeast" = some f) (hfn : Go.Proofs.YthfkpmobmnfgcaaDoor.Tryd.pinned.checked.prog.funcs[f]? = some fn) :
    false = Go.Proofs.YthfkpmobmnfgcaaDoor.Tryd.pinned.checked.prog.looks [] ∧ ∀ (j : Nat) t, fn.params[j]? = some t → Go.Proofs.YthfkpmobmnfgcaaDoor.Tryd.pinned.checked.prog.wantsStandIn t = false := by
  obtain rfl : f = 4 := Option.some.inj ((show Go.Proofs.Tryd.prog.funcNamed "crimp/crimplaw33.FormsLeast" = some 4 by kernel_rfl).symm.trans hf) |>.symm
  obtain rfl : fn = Go.Proofs.Tryd.f4 := (Option.some.inj (Go.Proofs.Tryd.func4.symm.trans hfn)).symm
  refine ⟨by kernel_rfl, fun j t ht => ?_⟩
  rw [Go.Proofs.Tryd.params4] at ht
  have hm := Array.mem_of_getElem? ht
  have hall : (#[24].all fun u => !Go.Proofs.Tryd.prog.wantsStandIn u) = true := by kernel_rfl
  have := Array.all_eq_true'.1 hall t hm
  exact (show Go.Proofs.Tryd.prog.wantsStandIn t = false by simpa using this)
end FormsLeast
end Go.Proofs.YthfkpmobmnfgcaaDoor.V

namespace Go.Proofs.YthfkpmobmnfgcaaDoor
/-- The card of FormsLeast. -/
theorem formsLeast_card : Rows.FormsLeastCardSaid :=
  Claim7.holds_tied_plain_at .later [] _ _ _ _ V.FormsLeast.said (fun _ h => by cases h) (by kernel_rfl) (fun _ h => by cases h) formsLeast_row_tie rfl ⟨rfl, rfl⟩ (by kernel_rfl) rfl V.FormsLeast.plain (by kernel_rfl)
#print axioms formsLeast_card
end Go.Proofs.YthfkpmobmnfgcaaDoor

