/-
  Parts of the proof: P15. Conditions: none.
-/
import Derived.Test.YthfkpmobmnfgcaaDoorBc4
/-
  The walk of forms.image: three turns more. Conditions: none.
-/
namespace Go.Proofs.YthfkpmobmnfgcaaDoor.V
open Go

set_option maxHeartbeats 4000000 in
set_option maxRecDepth 100000 in
theorem vImage3 : VImage 3 := by
  intro W H i he hW
  obtain ⟨l1, l2, l3, l4, l5, l6, l7, l8, l9⟩ := ce_le he
  have hq := ceQ_le W H i
  have c := st_cases hq.1 hq.2
  have iq : imQ 3 (ceQ W H i) = (ceQ W H i + 3) % 4 := by simp [imQ]
  have ix : imX 3 W (ceX W H i) (ceY W H i) = ceY W H i := by simp [imX]
  have iy : imY 3 H (ceX W H i) (ceY W H i) = H - 1 - ceX W H i := by simp [imY]
  have hQ : 0 ≤ imQ 3 (ceQ W H i) ∧ imQ 3 (ceQ W H i) ≤ 3 := by omega
  have c' := st_cases hQ.1 hQ.2
  have hX : 0 ≤ imX 3 W (ceX W H i) (ceY W H i) := by omega
  have hY : 0 ≤ imY 3 H (ceX W H i) (ceY W H i) := by omega
  have s := step_ok (qx := (4 * ceY W H i + 2 + sty (ceQ W H i) - 2 * H) + 2 * W) (qy := -(4 * ceX W H i + 2 + stx (ceQ W H i) - 2 * W) + 2 * H) hQ.1 hQ.2 hX hY (by omega) (by omega)
  obtain ⟨s1, s2, s3, s4⟩ := s
  repeat (any_goals (first
    | (with_reducible refine And.intro (Ask.mk ?_) ?_
       first | exact trivial | exact fun _ => trivial)
    | with_reducible refine And.intro ?_ ?_
    | with_reducible refine Br.mk (fun h => ?_) (fun h => ?_)
    | with_reducible exact True.intro
    | (with_reducible refine Late.mk ?_
       exact rfl)
    | (fail_if_success with_reducible apply stopA
       fail_if_success with_reducible apply stopE
       fail_if_success with_reducible apply stopF
       fail_if_success with_reducible apply Exists.intro
       fail_if_success with_reducible intro _
       fail_if_success with_reducible apply stopK
       fail_if_success with_reducible apply stopL
       conv => whnf)))
  all_goals (try with_reducible refine Ask.mk ?_)
  all_goals (try first | exact trivial | exact fun _ => trivial)
  all_goals (try dsimp only)
  all_goals (try simp only [show ∀ Q : Int, tb [0, 1, 0, -1] Q.toNat = stx Q from fun _ => rfl, show ∀ Q : Int, tb [-1, 0, 1, 0] Q.toNat = sty Q from fun _ => rfl])
  all_goals (try (simp only [inK]; omega))
  all_goals (try omega)
  all_goals (try (simp only [s1, s2, s3, s4, inIdx_st hQ.1 hQ.2]))
  all_goals (try (simp only [inK]; omega))
  all_goals (try omega)
  all_goals (try rfl)
  all_goals (try exact fun _ _ => trivial)

set_option maxHeartbeats 4000000 in
set_option maxRecDepth 100000 in
theorem vImage4 : VImage 4 := by
  intro W H i he hW
  obtain ⟨l1, l2, l3, l4, l5, l6, l7, l8, l9⟩ := ce_le he
  have hq := ceQ_le W H i
  have c := st_cases hq.1 hq.2
  have iq : imQ 4 (ceQ W H i) = (4 - ceQ W H i) % 4 := by simp [imQ]
  have ix : imX 4 W (ceX W H i) (ceY W H i) = W - 1 - ceX W H i := by simp [imX]
  have iy : imY 4 H (ceX W H i) (ceY W H i) = ceY W H i := by simp [imY]
  have hQ : 0 ≤ imQ 4 (ceQ W H i) ∧ imQ 4 (ceQ W H i) ≤ 3 := by omega
  have c' := st_cases hQ.1 hQ.2
  have hX : 0 ≤ imX 4 W (ceX W H i) (ceY W H i) := by omega
  have hY : 0 ≤ imY 4 H (ceX W H i) (ceY W H i) := by omega
  have s := step_ok (qx := -(4 * ceX W H i + 2 + stx (ceQ W H i) - 2 * W) + 2 * W) (qy := (4 * ceY W H i + 2 + sty (ceQ W H i) - 2 * H) + 2 * H) hQ.1 hQ.2 hX hY (by omega) (by omega)
  obtain ⟨s1, s2, s3, s4⟩ := s
  repeat (any_goals (first
    | (with_reducible refine And.intro (Ask.mk ?_) ?_
       first | exact trivial | exact fun _ => trivial)
    | with_reducible refine And.intro ?_ ?_
    | with_reducible refine Br.mk (fun h => ?_) (fun h => ?_)
    | with_reducible exact True.intro
    | (with_reducible refine Late.mk ?_
       exact rfl)
    | (fail_if_success with_reducible apply stopA
       fail_if_success with_reducible apply stopE
       fail_if_success with_reducible apply stopF
       fail_if_success with_reducible apply Exists.intro
       fail_if_success with_reducible intro _
       fail_if_success with_reducible apply stopK
       fail_if_success with_reducible apply stopL
       conv => whnf)))
  all_goals (try with_reducible refine Ask.mk ?_)
  all_goals (try first | exact trivial | exact fun _ => trivial)
  all_goals (try dsimp only)
  all_goals (try simp only [show ∀ Q : Int, tb [0, 1, 0, -1] Q.toNat = stx Q from fun _ => rfl, show ∀ Q : Int, tb [-1, 0, 1, 0] Q.toNat = sty Q from fun _ => rfl])
  all_goals (try (simp only [inK]; omega))
  all_goals (try omega)
  all_goals (try (simp only [s1, s2, s3, s4, inIdx_st hQ.1 hQ.2]))
  all_goals (try (simp only [inK]; omega))
  all_goals (try omega)
  all_goals (try rfl)
  all_goals (try exact fun _ _ => trivial)

set_option maxHeartbeats 4000000 in
set_option maxRecDepth 100000 in
theorem vImage5 : VImage 5 := by
  intro W H i he hW
  obtain ⟨l1, l2, l3, l4, l5, l6, l7, l8, l9⟩ := ce_le he
  have hq := ceQ_le W H i
  have c := st_cases hq.1 hq.2
  have iq : imQ 5 (ceQ W H i) = (5 - ceQ W H i) % 4 := by simp [imQ]
  have ix : imX 5 W (ceX W H i) (ceY W H i) = W - 1 - ceY W H i := by simp [imX]
  have iy : imY 5 H (ceX W H i) (ceY W H i) = H - 1 - ceX W H i := by simp [imY]
  have hQ : 0 ≤ imQ 5 (ceQ W H i) ∧ imQ 5 (ceQ W H i) ≤ 3 := by omega
  have c' := st_cases hQ.1 hQ.2
  have hX : 0 ≤ imX 5 W (ceX W H i) (ceY W H i) := by omega
  have hY : 0 ≤ imY 5 H (ceX W H i) (ceY W H i) := by omega
  have s := step_ok (qx := -(4 * ceY W H i + 2 + sty (ceQ W H i) - 2 * H) + 2 * W) (qy := -(4 * ceX W H i + 2 + stx (ceQ W H i) - 2 * W) + 2 * H) hQ.1 hQ.2 hX hY (by omega) (by omega)
  obtain ⟨s1, s2, s3, s4⟩ := s
  repeat (any_goals (first
    | (with_reducible refine And.intro (Ask.mk ?_) ?_
       first | exact trivial | exact fun _ => trivial)
    | with_reducible refine And.intro ?_ ?_
    | with_reducible refine Br.mk (fun h => ?_) (fun h => ?_)
    | with_reducible exact True.intro
    | (with_reducible refine Late.mk ?_
       exact rfl)
    | (fail_if_success with_reducible apply stopA
       fail_if_success with_reducible apply stopE
       fail_if_success with_reducible apply stopF
       fail_if_success with_reducible apply Exists.intro
       fail_if_success with_reducible intro _
       fail_if_success with_reducible apply stopK
       fail_if_success with_reducible apply stopL
       conv => whnf)))
  all_goals (try with_reducible refine Ask.mk ?_)
  all_goals (try first | exact trivial | exact fun _ => trivial)
  all_goals (try dsimp only)
  all_goals (try simp only [show ∀ Q : Int, tb [0, 1, 0, -1] Q.toNat = stx Q from fun _ => rfl, show ∀ Q : Int, tb [-1, 0, 1, 0] Q.toNat = sty Q from fun _ => rfl])
  all_goals (try (simp only [inK]; omega))
  all_goals (try omega)
  all_goals (try (simp only [s1, s2, s3, s4, inIdx_st hQ.1 hQ.2]))
  all_goals (try (simp only [inK]; omega))
  all_goals (try omega)
  all_goals (try rfl)
  all_goals (try exact fun _ _ => trivial)

end Go.Proofs.YthfkpmobmnfgcaaDoor.V

