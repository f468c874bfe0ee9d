/-
  Parts of the proof: L9. Conditions: none.
-/
import Derived.Test.YteodgliliglipaaGreatDoorFCc5
namespace Go.Proofs.YteodgliliglipaaGreatDoor.V
open Go
def bI (o : Bool) : Int := if o = true then 1 else 0
def wAt (k C s : Int) (o : Bool) (k' C' s' : Int) (o' : Bool) : Nat → Int
 | 0 => 0
 | 1 => cmpI k k'
 | 2 => cmpI C C'
 | 3 => cmpI s s'
 | _ => cmpI (bI o) (bI o')
def FFC : Fam := ⟨(Int × Int × Int × Bool) × Int × Int × Int × Bool, fun ((k, C, s, o), k', C', s', o') => [.agg [.int .u8 k, .int .i64 C, .int .u8 s, .bool o], .agg [.int .u8 k', .int .i64 C', .int .u8 s', .bool o']], fun ((k, C, s, o), k', C', s', o') => inK .u8 k ∧ inK .i64 C ∧ inK .u8 s ∧ inK .u8 k' ∧ inK .i64 C' ∧ inK .u8 s', fun _ => .bool true⟩
theorem FFC_pre {a b : Int × Int × Int × Bool} (ha : inK .u8 a.1 ∧ inK .i64 a.2.1 ∧ inK .u8 a.2.2.1) (hb : inK .u8 b.1 ∧ inK .i64 b.2.1 ∧ inK .u8 b.2.2.1) : FFC.pre (a, b) := ⟨ha.1, ha.2.1, ha.2.2, hb.1, hb.2.1, hb.2.2⟩
def IFC (k C s : Int) (o : Bool) (k' C' s' : Int) (o' : Bool) : Nat → Option Inv
 | 10 => some { β := Nat × Int × Int × Int, ok := fun (i, w, x, y) => i ≤ 4 ∧ (2 ≤ i → k = k') ∧ (3 ≤ i → C = C') ∧ (4 ≤ i → s = s') ∧ w = wAt k C s o k' C' s' o' i ∧ x = bI o ∧ y = bI o', st := fun (i, w, x, y) => ⟨[⟨9, none, .int .i64 i⟩, ⟨8, none, .int .i64 w⟩, ⟨7, none, .own (4) 0⟩, ⟨6, none, .own (3) 0⟩, ⟨3, none, .own (1) 0⟩, ⟨2, none, .own 0 0⟩], [.cells 45 [.int .u8 k, .int .i64 C, .int .u8 s, .bool o], .cells 45 [.int .u8 k', .int .i64 C', .int .u8 s', .bool o'], .cells 46 [.int .i64 x, .int .i64 y], .cells 47 [.int .i64 k, .int .i64 C, .int .i64 s, .int .i64 x], .cells 47 [.int .i64 k', .int .i64 C', .int .i64 s', .int .i64 y]]⟩, μ := fun (i, _) => 4 - i }
 | _ => none
theorem cmpI_z (a b : Int) : cmpI a b = 0 ↔ a = b := by unfold cmpI; split <;> (try split) <;> omega
theorem cmpI_neg (a b : Int) : cmpI b a = - cmpI a b := by unfold cmpI; split <;> split <;> omega
theorem cmpI_self (a : Int) : cmpI a a = 0 := (cmpI_z a a).2 rfl
theorem lastI_b (a b : Bool) : lastI a b = cmpI (bI a) (bI b) := by cases a <;> cases b <;> rfl
theorem bI_inj {a b : Bool} : bI a = bI b ↔ a = b := by cases a <;> cases b <;> decide
theorem cmpF_spec (k C s : Int) (o : Bool) (k' C' s' : Int) (o' : Bool) (i : Nat) (w : Int) (h1 : i ≤ 4) (h2 : 2 ≤ i → k = k') (h3 : 3 ≤ i → C = C') (h4 : 4 ≤ i → s = s') (hw : w = wAt k C s o k' C' s' o' i) (he : i = 4 ∨ w ≠ 0) : cmpF k C s o k' C' s' o' = w ∧ cmpF k' C' s' o' k C s o = - w ∧ (w = 0 ↔ (k = k' ∧ C = C' ∧ s = s' ∧ o = o')) := by
 have : i = 0 ∨ i = 1 ∨ i = 2 ∨ i = 3 ∨ i = 4 := by omega
 unfold cmpF or4
 rw [lastI_b, lastI_b, cmpI_neg k k', cmpI_neg C C', cmpI_neg s s', cmpI_neg (bI o) (bI o')]
 have z1 := cmpI_z k k'
 have z2 := cmpI_z C C'
 have z3 := cmpI_z s s'
 have z4 := cmpI_z (bI o) (bI o')
 rw [bI_inj] at z4
 rcases this with rfl | rfl | rfl | rfl | rfl
 ·
  simp [wAt] at hw; omega
 ·
  have hv : w = cmpI k k' := hw
  have h : w ≠ 0 := by omega
  clear hw
  have hk : ¬ k = k' := fun e => h (hv.trans (z1.2 e))
  have : ¬ (-w = 0) := by omega
  rw [← hv]; simp [h, hk]
 ·
  have hv : w = cmpI C C' := hw
  obtain rfl := h2 (by omega)
  have h : w ≠ 0 := by omega
  clear hw
  have hk : ¬ C = C' := fun e => h (hv.trans (z2.2 e))
  have : ¬ (-w = 0) := by omega
  simp only [cmpI_self, ← hv]; simp [h, hk]
 ·
  have hv : w = cmpI s s' := hw
  obtain rfl := h2 (by omega)
  obtain rfl := h3 (by omega)
  have h : w ≠ 0 := by omega
  clear hw
  have hk : ¬ s = s' := fun e => h (hv.trans (z3.2 e))
  have : ¬ (-w = 0) := by omega
  simp only [cmpI_self, ← hv]; simp [h, hk]
 ·
  have hv : w = cmpI (bI o) (bI o') := hw
  obtain rfl := h2 (by omega)
  obtain rfl := h3 (by omega)
  obtain rfl := h4 (by omega)
  simp only [cmpI_self, ← hv]; rw [← hv] at z4; simp [z4]
theorem fin_spec {k C s : Int} {o : Bool} {k' C' s' : Int} {o' : Bool} {i : Nat} {w : Int} (h1 : i ≤ 4) (h2 : 2 ≤ i → k = k') (h3 : 3 ≤ i → C = C') (h4 : 4 ≤ i → s = s') (hw : w = wAt k C s o k' C' s' o' i) (he : i = 4 ∨ w ≠ 0) :
 (decide (cmpF k C s o k' C' s' o' = w) && decide (cmpF k' C' s' o' k C s o = -w) && decide (w = 0) == (decide (k = k') && (decide (C = C') && true) && (decide (s = s') && (o == o' && true))) && true) = true := by
 obtain ⟨a, b, c⟩ := cmpF_spec k C s o k' C' s' o' i w h1 h2 h3 h4 hw he
 rw [a, b]
 have e : (o == o') = decide (o = o') := by cases o <;> cases o' <;> rfl
 simp [e]
 by_cases hz : w = 0
 ·
  obtain ⟨rfl, rfl, rfl, rfl⟩ := c.1 hz
  simp [hz]
 ·
  have : ¬ (k = k' ∧ C = C' ∧ s = s' ∧ o = o') := fun h => hz (c.2 h)
  simp [hz]
  grind
theorem w_small {k C s : Int} {o : Bool} {k' C' s' : Int} {o' : Bool} {i : Nat} {w : Int} (hw : w = wAt k C s o k' C' s' o' i) : -1 ≤ w ∧ w ≤ 1 := by
 subst hw; unfold wAt cmpI; split <;> (try split) <;> (try split) <;> omega
abbrev nFC : FuncId := 4
set_option maxHeartbeats 4000000 in
set_option maxRecDepth 100000 in
theorem pFC_of (hl : PS nLives28 kLives28) : PS nFC (topK FFC) := by
  refine con [(nLives28, kLives28), (nFCompare, kFCompare)] (by simpa using ⟨hl, pFCompare⟩) FFC (fun ((k, C, s, o), k', C', s', o') => IFC k C s o k' C' s' o') (topK FFC) (top_law FFC (fun _ => rfl) (fun _ => by simp [FFC, le2L, SV.le2, SV.le1, SV.le0, le0L])) ?_ Go.Proofs.Tryz.func4 (by kernel_rfl) (by kernel_rfl) (by kernel_rfl) ?_
  · intro i; show 2 ≤ _; decide
  rintro ⟨⟨k, C, s, o⟩, k', C', s', o'⟩ hp
  obtain ⟨h1, h2, h3, h4, h5, h6⟩ := hp
  have b0 : bI false = 0 := rfl
  have b1 : bI true = 1 := rfl
  repeat' (first | ((with_reducible refine And.intro (Ask.mk ?_) ?_); first | exact trivial | exact fun _ => trivial) | with_reducible refine And.intro ?_ ?_ | ((with_reducible refine Br.litT ?_ ?_); exact (Eq.refl true)) | ((with_reducible refine Br.litF ?_ ?_); exact (Eq.refl false)) | with_reducible refine Br.mk (fun h => ?_) (fun h => ?_) | with_reducible exact True.intro | with_reducible refine rowEq ?_ | with_reducible refine Ub.mk (fun hu => ?_) | ((with_reducible refine Late.mk ?_); exact rfl) | ((fail_if_success (with_reducible first | refine stopA ?_ | refine stopE ?_ | refine stopF ?_ | refine Exists.intro ?_ ?_ | intro _ | refine stopK ?_ | refine stopL ?_)); conv => whnf))
  all_goals (try with_reducible refine Ask.mk ?_)
  all_goals (try first | exact trivial | exact fun _ => trivial)
  all_goals (try dsimp only)
  all_goals (try first | (simp only [inK] at *; omega) | omega)
  all_goals (refine ⟨((0 : Nat), (0 : Int), bI o, bI o'), ⟨by omega, by omega, by omega, by omega, rfl, rfl, rfl⟩, ?_, ?_⟩)
  all_goals first
    | rintro ⟨i, w, x, y⟩ ⟨g1, g2, g3, g4, g5, gx, gy⟩
      replace g5 : w = wAt k C s o k' C' s' o' i := g5
      have g6 := w_small g5
      have : i = 0 ∨ i = 1 ∨ i = 2 ∨ i = 3 ∨ i = 4 := by omega
      rcases this with rfl | rfl | rfl | rfl | e4
      · repeat' (first | ((with_reducible refine And.intro (Ask.mk ?_) ?_); first | exact trivial | exact fun _ => trivial) | with_reducible refine And.intro ?_ ?_ | ((with_reducible refine Br.litT ?_ ?_); exact (Eq.refl true)) | ((with_reducible refine Br.litF ?_ ?_); exact (Eq.refl false)) | with_reducible refine Br.mk (fun h => ?_) (fun h => ?_) | with_reducible exact True.intro | with_reducible refine rowEq ?_ | with_reducible refine Ub.mk (fun hu => ?_) | ((with_reducible refine Late.mk ?_); exact rfl) | ((fail_if_success (with_reducible first | refine stopA ?_ | refine stopE ?_ | refine stopF ?_ | refine Exists.intro ?_ ?_ | intro _ | refine stopK ?_ | refine stopL ?_)); conv => whnf))
        all_goals (try with_reducible refine Ask.mk ?_)
        all_goals (try first | exact trivial | exact fun _ => trivial)
        all_goals (try dsimp only)
        all_goals first
          | (simp only [inK]; omega)
          | omega
          | (intro _; simp only [inK]; omega)
          | exact fin_spec g1 g2 g3 g4 g5 (Or.inr (by intro e; simp [e] at *))
          | (have hw : w = 0 := by simp at *; assumption
             refine ⟨((1 : Nat), cmpI k k', x, y), ⟨by omega, by omega, by omega, by omega, rfl, gx, gy⟩, by show 4 - 1 < 4 - 0; omega, ?_⟩)
        repeat' (first | ((with_reducible refine And.intro (Ask.mk ?_) ?_); first | exact trivial | exact fun _ => trivial) | with_reducible refine And.intro ?_ ?_ | ((with_reducible refine Br.litT ?_ ?_); exact (Eq.refl true)) | ((with_reducible refine Br.litF ?_ ?_); exact (Eq.refl false)) | with_reducible refine Br.mk (fun h => ?_) (fun h => ?_) | with_reducible exact True.intro | with_reducible refine rowEq ?_ | with_reducible refine Ub.mk (fun hu => ?_) | ((with_reducible refine Late.mk ?_); exact rfl) | ((fail_if_success (with_reducible first | refine stopA ?_ | refine stopE ?_ | refine stopF ?_ | refine Exists.intro ?_ ?_ | intro _ | refine stopK ?_ | refine stopL ?_)); conv => whnf))
        all_goals (try with_reducible refine Ask.mk ?_)
        all_goals (try first | exact trivial | exact fun _ => trivial)
        all_goals (try dsimp only)
        all_goals first
          | rfl
          | (subst hw; rfl)
          | omega
          | (simp [cmpI] at *; omega)
      · repeat' (first | ((with_reducible refine And.intro (Ask.mk ?_) ?_); first | exact trivial | exact fun _ => trivial) | with_reducible refine And.intro ?_ ?_ | ((with_reducible refine Br.litT ?_ ?_); exact (Eq.refl true)) | ((with_reducible refine Br.litF ?_ ?_); exact (Eq.refl false)) | with_reducible refine Br.mk (fun h => ?_) (fun h => ?_) | with_reducible exact True.intro | with_reducible refine rowEq ?_ | with_reducible refine Ub.mk (fun hu => ?_) | ((with_reducible refine Late.mk ?_); exact rfl) | ((fail_if_success (with_reducible first | refine stopA ?_ | refine stopE ?_ | refine stopF ?_ | refine Exists.intro ?_ ?_ | intro _ | refine stopK ?_ | refine stopL ?_)); conv => whnf))
        all_goals (try with_reducible refine Ask.mk ?_)
        all_goals (try first | exact trivial | exact fun _ => trivial)
        all_goals (try dsimp only)
        all_goals first
          | (simp only [inK]; omega)
          | omega
          | (intro _; simp only [inK]; omega)
          | exact fin_spec g1 g2 g3 g4 g5 (Or.inr (by intro e; simp [e] at *))
          | (have hw : w = 0 := by simp at *; assumption
             refine ⟨((2 : Nat), cmpI C C', x, y), ⟨by omega, fun _ => (cmpI_z k k').1 (g5.symm.trans hw), by omega, by omega, rfl, gx, gy⟩, by show 4 - 2 < 4 - 1; omega, ?_⟩)
        repeat' (first | ((with_reducible refine And.intro (Ask.mk ?_) ?_); first | exact trivial | exact fun _ => trivial) | with_reducible refine And.intro ?_ ?_ | ((with_reducible refine Br.litT ?_ ?_); exact (Eq.refl true)) | ((with_reducible refine Br.litF ?_ ?_); exact (Eq.refl false)) | with_reducible refine Br.mk (fun h => ?_) (fun h => ?_) | with_reducible exact True.intro | with_reducible refine rowEq ?_ | with_reducible refine Ub.mk (fun hu => ?_) | ((with_reducible refine Late.mk ?_); exact rfl) | ((fail_if_success (with_reducible first | refine stopA ?_ | refine stopE ?_ | refine stopF ?_ | refine Exists.intro ?_ ?_ | intro _ | refine stopK ?_ | refine stopL ?_)); conv => whnf))
        all_goals (try with_reducible refine Ask.mk ?_)
        all_goals (try first | exact trivial | exact fun _ => trivial)
        all_goals (try dsimp only)
        all_goals first
          | rfl
          | (subst hw; rfl)
          | omega
          | (simp [cmpI] at *; omega)
      · repeat' (first | ((with_reducible refine And.intro (Ask.mk ?_) ?_); first | exact trivial | exact fun _ => trivial) | with_reducible refine And.intro ?_ ?_ | ((with_reducible refine Br.litT ?_ ?_); exact (Eq.refl true)) | ((with_reducible refine Br.litF ?_ ?_); exact (Eq.refl false)) | with_reducible refine Br.mk (fun h => ?_) (fun h => ?_) | with_reducible exact True.intro | with_reducible refine rowEq ?_ | with_reducible refine Ub.mk (fun hu => ?_) | ((with_reducible refine Late.mk ?_); exact rfl) | ((fail_if_success (with_reducible first | refine stopA ?_ | refine stopE ?_ | refine stopF ?_ | refine Exists.intro ?_ ?_ | intro _ | refine stopK ?_ | refine stopL ?_)); conv => whnf))
        all_goals (try with_reducible refine Ask.mk ?_)
        all_goals (try first | exact trivial | exact fun _ => trivial)
        all_goals (try dsimp only)
        all_goals first
          | (simp only [inK]; omega)
          | omega
          | (intro _; simp only [inK]; omega)
          | exact fin_spec g1 g2 g3 g4 g5 (Or.inr (by intro e; simp [e] at *))
          | (have hw : w = 0 := by simp at *; assumption
             refine ⟨((3 : Nat), cmpI s s', x, y), ⟨by omega, fun _ => g2 (by omega), fun _ => (cmpI_z C C').1 (g5.symm.trans hw), by omega, rfl, gx, gy⟩, by show 4 - 3 < 4 - 2; omega, ?_⟩)
        repeat' (first | ((with_reducible refine And.intro (Ask.mk ?_) ?_); first | exact trivial | exact fun _ => trivial) | with_reducible refine And.intro ?_ ?_ | ((with_reducible refine Br.litT ?_ ?_); exact (Eq.refl true)) | ((with_reducible refine Br.litF ?_ ?_); exact (Eq.refl false)) | with_reducible refine Br.mk (fun h => ?_) (fun h => ?_) | with_reducible exact True.intro | with_reducible refine rowEq ?_ | with_reducible refine Ub.mk (fun hu => ?_) | ((with_reducible refine Late.mk ?_); exact rfl) | ((fail_if_success (with_reducible first | refine stopA ?_ | refine stopE ?_ | refine stopF ?_ | refine Exists.intro ?_ ?_ | intro _ | refine stopK ?_ | refine stopL ?_)); conv => whnf))
        all_goals (try with_reducible refine Ask.mk ?_)
        all_goals (try first | exact trivial | exact fun _ => trivial)
        all_goals (try dsimp only)
        all_goals first
          | rfl
          | (subst hw; rfl)
          | omega
          | (simp [cmpI] at *; omega)
      · repeat' (first | ((with_reducible refine And.intro (Ask.mk ?_) ?_); first | exact trivial | exact fun _ => trivial) | with_reducible refine And.intro ?_ ?_ | ((with_reducible refine Br.litT ?_ ?_); exact (Eq.refl true)) | ((with_reducible refine Br.litF ?_ ?_); exact (Eq.refl false)) | with_reducible refine Br.mk (fun h => ?_) (fun h => ?_) | with_reducible exact True.intro | with_reducible refine rowEq ?_ | with_reducible refine Ub.mk (fun hu => ?_) | ((with_reducible refine Late.mk ?_); exact rfl) | ((fail_if_success (with_reducible first | refine stopA ?_ | refine stopE ?_ | refine stopF ?_ | refine Exists.intro ?_ ?_ | intro _ | refine stopK ?_ | refine stopL ?_)); conv => whnf))
        all_goals (try with_reducible refine Ask.mk ?_)
        all_goals (try first | exact trivial | exact fun _ => trivial)
        all_goals (try dsimp only)
        all_goals first
          | (simp only [inK]; omega)
          | omega
          | (intro _; simp only [inK]; omega)
          | exact fin_spec g1 g2 g3 g4 g5 (Or.inr (by intro e; simp [e] at *))
          | (have hw : w = 0 := by simp at *; assumption
             refine ⟨((4 : Nat), cmpI x y, x, y), ⟨by omega, fun _ => g2 (by omega), fun _ => g3 (by omega), fun _ => (cmpI_z s s').1 (g5.symm.trans hw), by subst gx gy; rfl, gx, gy⟩, by show 4 - 4 < 4 - 3; omega, ?_⟩)
        repeat' (first | ((with_reducible refine And.intro (Ask.mk ?_) ?_); first | exact trivial | exact fun _ => trivial) | with_reducible refine And.intro ?_ ?_ | ((with_reducible refine Br.litT ?_ ?_); exact (Eq.refl true)) | ((with_reducible refine Br.litF ?_ ?_); exact (Eq.refl false)) | with_reducible refine Br.mk (fun h => ?_) (fun h => ?_) | with_reducible exact True.intro | with_reducible refine rowEq ?_ | with_reducible refine Ub.mk (fun hu => ?_) | ((with_reducible refine Late.mk ?_); exact rfl) | ((fail_if_success (with_reducible first | refine stopA ?_ | refine stopE ?_ | refine stopF ?_ | refine Exists.intro ?_ ?_ | intro _ | refine stopK ?_ | refine stopL ?_)); conv => whnf))
        all_goals (try with_reducible refine Ask.mk ?_)
        all_goals (try first | exact trivial | exact fun _ => trivial)
        all_goals (try dsimp only)
        all_goals first
          | rfl
          | (subst hw; rfl)
          | omega
          | (simp [cmpI] at *; omega)
      · subst e4
        repeat' (first | ((with_reducible refine And.intro (Ask.mk ?_) ?_); first | exact trivial | exact fun _ => trivial) | with_reducible refine And.intro ?_ ?_ | ((with_reducible refine Br.litT ?_ ?_); exact (Eq.refl true)) | ((with_reducible refine Br.litF ?_ ?_); exact (Eq.refl false)) | with_reducible refine Br.mk (fun h => ?_) (fun h => ?_) | with_reducible exact True.intro | with_reducible refine rowEq ?_ | with_reducible refine Ub.mk (fun hu => ?_) | ((with_reducible refine Late.mk ?_); exact rfl) | ((fail_if_success (with_reducible first | refine stopA ?_ | refine stopE ?_ | refine stopF ?_ | refine Exists.intro ?_ ?_ | intro _ | refine stopK ?_ | refine stopL ?_)); conv => whnf))
        all_goals (try with_reducible refine Ask.mk ?_)
        all_goals (try first | exact trivial | exact fun _ => trivial)
        all_goals (try dsimp only)
        all_goals first
          | (intro _; simp only [inK]; omega)
          | exact fin_spec g1 g2 g3 g4 g5 (Or.inl rfl)
    | skip
  repeat' (first | ((with_reducible refine And.intro (Ask.mk ?_) ?_); first | exact trivial | exact fun _ => trivial) | with_reducible refine And.intro ?_ ?_ | ((with_reducible refine Br.litT ?_ ?_); exact (Eq.refl true)) | ((with_reducible refine Br.litF ?_ ?_); exact (Eq.refl false)) | with_reducible refine Br.mk (fun h => ?_) (fun h => ?_) | with_reducible exact True.intro | with_reducible refine rowEq ?_ | with_reducible refine Ub.mk (fun hu => ?_) | ((with_reducible refine Late.mk ?_); exact rfl) | ((fail_if_success (with_reducible first | refine stopA ?_ | refine stopE ?_ | refine stopF ?_ | refine Exists.intro ?_ ?_ | intro _ | refine stopK ?_ | refine stopL ?_)); conv => whnf))
  all_goals (try with_reducible refine Ask.mk ?_)
  all_goals (try first | exact trivial | exact fun _ => trivial)
  all_goals (try dsimp only)
  all_goals first
    | rfl
    | (subst_vars; rfl)
end Go.Proofs.YteodgliliglipaaGreatDoor.V
