/-
  Parts of the proof: P16. Conditions: none.
-/
import Derived.Test.YthfkpmobmnfgcaaDoorBc4
/-
  The walk of forms.image: the last two turns. Conditions: none.
-/
namespace Go.Proofs.YthfkpmobmnfgcaaDoor.V
open Go

set_option maxHeartbeats 4000000 in
set_option maxRecDepth 100000 in
theorem vImage6 : VImage 6 := by
  intro W H i he hW
  obtain ⟨l1, l2, l3, l4, l5, l6, l7, l8, l9⟩ := ce_le he
  have hq := ceQ_le W H i
  have c := st_cases hq.1 hq.2
  have iq : imQ 6 (ceQ W H i) = (6 - ceQ W H i) % 4 := by simp [imQ]
  have ix : imX 6 W (ceX W H i) (ceY W H i) = ceX W H i := by simp [imX]
  have iy : imY 6 H (ceX W H i) (ceY W H i) = H - 1 - ceY W H i := by simp [imY]
  have hQ : 0 ≤ imQ 6 (ceQ W H i) ∧ imQ 6 (ceQ W H i) ≤ 3 := by omega
  have c' := st_cases hQ.1 hQ.2
  have hX : 0 ≤ imX 6 W (ceX W H i) (ceY W H i) := by omega
  have hY : 0 ≤ imY 6 H (ceX W H i) (ceY W H i) := by omega
  have s := step_ok (qx := (4 * ceX W H i + 2 + stx (ceQ W H i) - 2 * W) + 2 * W) (qy := -(4 * ceY W H i + 2 + sty (ceQ W H i) - 2 * H) + 2 * H) hQ.1 hQ.2 hX hY (by omega) (by omega)
  obtain ⟨s1, s2, s3, s4⟩ := s
  repeat (any_goals (first
    | (with_reducible refine And.intro (Ask.mk ?_) ?_
       first | exact trivial | exact fun _ => trivial)
    | with_reducible refine And.intro ?_ ?_
    | with_reducible refine Br.mk (fun h => ?_) (fun h => ?_)
    | with_reducible exact True.intro
    | (with_reducible refine Late.mk ?_
       exact rfl)
    | (fail_if_success with_reducible apply stopA
       fail_if_success with_reducible apply stopE
       fail_if_success with_reducible apply stopF
       fail_if_success with_reducible apply Exists.intro
       fail_if_success with_reducible intro _
       fail_if_success with_reducible apply stopK
       fail_if_success with_reducible apply stopL
       conv => whnf)))
  all_goals (try with_reducible refine Ask.mk ?_)
  all_goals (try first | exact trivial | exact fun _ => trivial)
  all_goals (try dsimp only)
  all_goals (try simp only [show ∀ Q : Int, tb [0, 1, 0, -1] Q.toNat = stx Q from fun _ => rfl, show ∀ Q : Int, tb [-1, 0, 1, 0] Q.toNat = sty Q from fun _ => rfl])
  all_goals (try (simp only [inK]; omega))
  all_goals (try omega)
  all_goals (try (simp only [s1, s2, s3, s4, inIdx_st hQ.1 hQ.2]))
  all_goals (try (simp only [inK]; omega))
  all_goals (try omega)
  all_goals (try rfl)
  all_goals (try exact fun _ _ => trivial)

set_option maxHeartbeats 4000000 in
set_option maxRecDepth 100000 in
theorem vImage7 : VImage 7 := by
  intro W H i he hW
  obtain ⟨l1, l2, l3, l4, l5, l6, l7, l8, l9⟩ := ce_le he
  have hq := ceQ_le W H i
  have c := st_cases hq.1 hq.2
  have iq : imQ 7 (ceQ W H i) = (7 - ceQ W H i) % 4 := by simp [imQ]
  have ix : imX 7 W (ceX W H i) (ceY W H i) = ceY W H i := by simp [imX]
  have iy : imY 7 H (ceX W H i) (ceY W H i) = ceX W H i := by simp [imY]
  have hQ : 0 ≤ imQ 7 (ceQ W H i) ∧ imQ 7 (ceQ W H i) ≤ 3 := by omega
  have c' := st_cases hQ.1 hQ.2
  have hX : 0 ≤ imX 7 W (ceX W H i) (ceY W H i) := by omega
  have hY : 0 ≤ imY 7 H (ceX W H i) (ceY W H i) := by omega
  have s := step_ok (qx := (4 * ceY W H i + 2 + sty (ceQ W H i) - 2 * H) + 2 * W) (qy := (4 * ceX W H i + 2 + stx (ceQ W H i) - 2 * W) + 2 * H) hQ.1 hQ.2 hX hY (by omega) (by omega)
  obtain ⟨s1, s2, s3, s4⟩ := s
  repeat (any_goals (first
    | (with_reducible refine And.intro (Ask.mk ?_) ?_
       first | exact trivial | exact fun _ => trivial)
    | with_reducible refine And.intro ?_ ?_
    | with_reducible refine Br.mk (fun h => ?_) (fun h => ?_)
    | with_reducible exact True.intro
    | (with_reducible refine Late.mk ?_
       exact rfl)
    | (fail_if_success with_reducible apply stopA
       fail_if_success with_reducible apply stopE
       fail_if_success with_reducible apply stopF
       fail_if_success with_reducible apply Exists.intro
       fail_if_success with_reducible intro _
       fail_if_success with_reducible apply stopK
       fail_if_success with_reducible apply stopL
       conv => whnf)))
  all_goals (try with_reducible refine Ask.mk ?_)
  all_goals (try first | exact trivial | exact fun _ => trivial)
  all_goals (try dsimp only)
  all_goals (try simp only [show ∀ Q : Int, tb [0, 1, 0, -1] Q.toNat = stx Q from fun _ => rfl, show ∀ Q : Int, tb [-1, 0, 1, 0] Q.toNat = sty Q from fun _ => rfl])
  all_goals (try (simp only [inK]; omega))
  all_goals (try omega)
  all_goals (try (simp only [s1, s2, s3, s4, inIdx_st hQ.1 hQ.2]))
  all_goals (try (simp only [inK]; omega))
  all_goals (try omega)
  all_goals (try rfl)
  all_goals (try exact fun _ _ => trivial)

end Go.Proofs.YthfkpmobmnfgcaaDoor.V

