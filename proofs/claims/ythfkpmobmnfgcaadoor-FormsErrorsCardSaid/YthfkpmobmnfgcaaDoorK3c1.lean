/-
  Parts of the proof: L3. Conditions: none.
-/
import Derived.Test.YthfkpmobmnfgcaaDoorBc8
import Derived.Test.YthfkpmobmnfgcaaDoorBc9
/-
  FormsErrors: its call returns true, whatever the input. Conditions: none.
-/
namespace Go.Proofs.YthfkpmobmnfgcaaDoor.V
open Go

def lErrors : List (FuncId × Kon) := [(nLives, kLives), (nPCheck, kPCheck), (nOf, kOf), (nImages, kImages), (nLeast, kLeast), (nSymm, kSymm), (nAlike, kAlike)]
theorem lErrors_ok : ∀ x ∈ lErrors, PS x.1 x.2 := by simpa [lErrors] using ⟨pLives, pPCheck, pOf, pImages, pLeast, pSymm, pAlike⟩
theorem crL_trRow (l : List Cr) : crL l.length (trRow l) = l := by
  apply List.ext_getElem?
  intro i
  by_cases hi : i < l.length
  · simp [crL, trRow, hi, trSV, crOf, List.getD_eq_getElem?_getD]
  · simp at hi; simp [crL, hi]
theorem pvEta (x : PV) : ({ W := x.W, H := x.H, L := crL x.L.length (trRow x.L) } : PV) = x := by rw [crL_trRow]
def FLErrors : Fam := ⟨PV × Pt, fun (x, p) => [pvSV x, patSV p], fun (x, p) => x.ok ∧ ∀ c ∈ p.l, inK .u8 c.e, fun _ => .bool true⟩
theorem FLErrors_le : ∀ i, le2L (FLErrors.args i) (FLErrors.args i) := fun (x, p) => ⟨by simp [pvSV, SV.le2, SV.le1, le0L, SV.le0, capLe], by simp [patSV, SV.le2, SV.le1, le0L, SV.le0, capLe], trivial⟩
set_option maxHeartbeats 8000000 in
set_option maxRecDepth 100000 in
theorem wLErrors : ∀ i, FLErrors.pre i → wpC (EX lErrors [] (fun _ => false) none) Go.Proofs.Tryd.f7.ntmps (fun _ => none) (Go.Proofs.Tryd.f7.body.getD .skip) ⟨retP (EX lErrors [] (fun _ => false) none) Go.Proofs.Tryd.f7 (FLErrors.res i), fun _ _ => False, retP (EX lErrors [] (fun _ => false) none) Go.Proofs.Tryd.f7 (FLErrors.res i)⟩ ⟨initE 0 (FLErrors.args i), []⟩ := by
  rintro ⟨x, p⟩ hp
  replace hp : x.ok ∧ ∀ c ∈ p.l, inK .u8 c.e := hp
  obtain ⟨hx, hp1⟩ := hp
  obtain ⟨q1, q2, q3⟩ := ofP_ok hx
  have hq : ∀ c ∈ (ofP x).l, inK .u8 c.e := fun c hc => (goodC_k (q2 c hc)).1
  repeat (any_goals (first
    | (with_reducible refine And.intro (Ask.mk ?_) ?_
       first | exact trivial | exact fun _ => trivial)
    | with_reducible refine And.intro ?_ ?_
    | with_reducible refine Br.mk (fun h => ?_) (fun h => ?_)
    | with_reducible exact True.intro
    | (with_reducible refine Late.mk ?_
       exact rfl)
    | (fail_if_success with_reducible apply stopA
       fail_if_success with_reducible apply stopE
       fail_if_success with_reducible apply stopF
       fail_if_success with_reducible apply Exists.intro
       fail_if_success with_reducible intro _
       fail_if_success with_reducible apply stopK
       fail_if_success with_reducible apply stopL
       conv => whnf)))
  all_goals (try with_reducible refine Ask.mk ?_)
  all_goals (try first | exact trivial | exact fun _ => trivial)
  all_goals (try dsimp only)
  all_goals (try simp only [ptEta, pvEta] at *)
  all_goals (try simp only [decide_eq_false_iff_not] at *)
  all_goals (have hpc : ∀ c ∈ crL p.l.length (rowOf p.l), inK .u8 c.e := by rw [crL_rowOf]; exact hp1)
  all_goals (have hqc : ∀ c ∈ crL (ofP x).l.length (rowOf (ofP x).l), inK .u8 c.e := by rw [crL_rowOf]; exact hq)
  · exact ⟨⟨isCr_rowOf _, by omega⟩, hpc⟩
  · exact ⟨fun _ _ => rfl, hx⟩
  all_goals (have e1 : imgsE p = [] := by rw [imgsE, if_neg h])
  all_goals (have e2 : leastP p = dP := by rw [leastP, if_neg h])
  all_goals (have e3 : symN p = 0 := by rw [symN, e1]; rfl)
  all_goals (have e4 : alikeE p (ofP x) = patErr p := by rw [alikeE, if_neg h])
  all_goals (have e5 : alikeE (ofP x) p = patErr p := by rw [alikeE, if_pos q1])
  all_goals (have e6 : alikeB p (ofP x) = false := by rw [alikeB, if_neg h])
  all_goals (have e7 : alikeB (ofP x) p = false := by rw [alikeB, if_pos q1, if_neg h])
  · exact ⟨⟨isCr_rowOf _, by omega⟩, hpc⟩
  · exact ⟨⟨isCr_rowOf _, by omega⟩, hpc⟩
  · exact ⟨⟨isCr_rowOf _, by omega⟩, hpc⟩
  · exact ⟨⟨⟨isCr_rowOf _, by omega⟩, hpc⟩, ⟨isCr_rowOf _, by omega⟩, hqc⟩
  · exact ⟨⟨⟨isCr_rowOf _, by omega⟩, hqc⟩, ⟨isCr_rowOf _, by omega⟩, hpc⟩
  · intro _
    rw [e1, e2]
    simp [inK, dP]
  · rw [e1, e2, e3, e4, e5, e6, e7]
    simp [dP]

end Go.Proofs.YthfkpmobmnfgcaaDoor.V

