/-
  Parts of the proof: N1 P4 F1. Conditions: none.
-/
import Derived.Test.YteodgliliglipaaGreatDoorFCc2
import Derived.Test.YteodgliliglipaaGreatDoorFCc3
import Derived.Test.YteodgliliglipaaGreatDoorChecked
namespace Go.Proofs.YteodgliliglipaaGreatDoor.V
open Go
abbrev nLives28 : FuncId := 17
def kLives28 : Kon
 | [] => some (True, .bool true)
 | _ => none
theorem top_law (F : Fam) (hres : ∀ i, F.res i = .bool true) (hle : ∀ i, le2L (F.args i) (F.args i)) : Law F (topK F) := fun zs p s hk hp => by
 unfold topK at hk
 split at hk
 ·
  rename_i hex
  obtain ⟨i, hi, rfl⟩ := hex
  cases hk
  exact ⟨i, hle i, hi, (hres i).symm⟩
 ·
  cases hk
def cmpI (a b : Int) : Int := if a < b then -1 else if a > b then 1 else 0
abbrev nNaN : FuncId := 102
def kNaN : Kon
 | [.int .i64 a] => some (True, .bool false)
 | _ => none
def FNaN : Fam := ⟨Int, fun a => [.int .i64 a], fun a => True, fun a => .bool false⟩
set_option maxHeartbeats 4000000 in
set_option maxRecDepth 100000 in
theorem pNaN : PS nNaN kNaN := by
 refine con [] (by simp) FNaN (fun _ _ => none) kNaN ?_ ?_ Go.Proofs.Tryz.func102 (by kernel_rfl) (by kernel_rfl) (by kernel_rfl) ?_
 ·
  intro args pre s h hp
  unfold kNaN at h
  split at h
  ·
   rename_i a; cases h; exact ⟨a, by simp [FNaN, le2L, SV.le2, SV.le1, le0L, SV.le0], hp, rfl⟩
  ·
   cases h
 ·
  intro i; show 1 ≤ _; decide
 ·
  intro (a : Int) hp
  replace hp : True := hp
  repeat' (first | ((with_reducible refine And.intro (Ask.mk ?_) ?_); first | exact trivial | exact fun _ => trivial) | with_reducible refine And.intro ?_ ?_ | ((with_reducible refine Br.litT ?_ ?_); exact (Eq.refl true)) | ((with_reducible refine Br.litF ?_ ?_); exact (Eq.refl false)) | with_reducible refine Br.mk (fun h => ?_) (fun h => ?_) | with_reducible exact True.intro | with_reducible refine rowEq ?_ | with_reducible refine Ub.mk (fun hu => ?_) | ((with_reducible refine Late.mk ?_); exact rfl) | ((fail_if_success (with_reducible first | refine stopA ?_ | refine stopE ?_ | refine stopF ?_ | refine Exists.intro ?_ ?_ | intro _ | refine stopK ?_ | refine stopL ?_)); conv => whnf))
  all_goals (try with_reducible refine Ask.mk ?_)
  all_goals (try first | exact trivial | exact fun _ => trivial)
  all_goals (try dsimp only)
  all_goals simp
abbrev nNaN8 : FuncId := 103
def kNaN8 : Kon
 | [.int .u8 a] => some (True, .bool false)
 | _ => none
def FNaN8 : Fam := ⟨Int, fun a => [.int .u8 a], fun a => True, fun a => .bool false⟩
set_option maxHeartbeats 4000000 in
set_option maxRecDepth 100000 in
theorem pNaN8 : PS nNaN8 kNaN8 := by
 refine con [] (by simp) FNaN8 (fun _ _ => none) kNaN8 ?_ ?_ Go.Proofs.Tryz.func103 (by kernel_rfl) (by kernel_rfl) (by kernel_rfl) ?_
 ·
  intro args pre s h hp
  unfold kNaN8 at h
  split at h
  ·
   rename_i a; cases h; exact ⟨a, by simp [FNaN8, le2L, SV.le2, SV.le1, le0L, SV.le0], hp, rfl⟩
  ·
   cases h
 ·
  intro i; show 1 ≤ _; decide
 ·
  intro (a : Int) hp
  replace hp : True := hp
  repeat' (first | ((with_reducible refine And.intro (Ask.mk ?_) ?_); first | exact trivial | exact fun _ => trivial) | with_reducible refine And.intro ?_ ?_ | ((with_reducible refine Br.litT ?_ ?_); exact (Eq.refl true)) | ((with_reducible refine Br.litF ?_ ?_); exact (Eq.refl false)) | with_reducible refine Br.mk (fun h => ?_) (fun h => ?_) | with_reducible exact True.intro | with_reducible refine rowEq ?_ | with_reducible refine Ub.mk (fun hu => ?_) | ((with_reducible refine Late.mk ?_); exact rfl) | ((fail_if_success (with_reducible first | refine stopA ?_ | refine stopE ?_ | refine stopF ?_ | refine Exists.intro ?_ ?_ | intro _ | refine stopK ?_ | refine stopL ?_)); conv => whnf))
  all_goals (try with_reducible refine Ask.mk ?_)
  all_goals (try first | exact trivial | exact fun _ => trivial)
  all_goals (try dsimp only)
  all_goals simp
abbrev nNaNk : FuncId := 101
def kNaNk : Kon
 | [.int .u8 a] => some (True, .bool false)
 | _ => none
def FNaNk : Fam := ⟨Int, fun a => [.int .u8 a], fun a => True, fun a => .bool false⟩
set_option maxHeartbeats 4000000 in
set_option maxRecDepth 100000 in
theorem pNaNk : PS nNaNk kNaNk := by
 refine con [] (by simp) FNaNk (fun _ _ => none) kNaNk ?_ ?_ Go.Proofs.Tryz.func101 (by kernel_rfl) (by kernel_rfl) (by kernel_rfl) ?_
 ·
  intro args pre s h hp
  unfold kNaNk at h
  split at h
  ·
   rename_i a; cases h; exact ⟨a, by simp [FNaNk, le2L, SV.le2, SV.le1, le0L, SV.le0], hp, rfl⟩
  ·
   cases h
 ·
  intro i; show 1 ≤ _; decide
 ·
  intro (a : Int) hp
  replace hp : True := hp
  repeat' (first | ((with_reducible refine And.intro (Ask.mk ?_) ?_); first | exact trivial | exact fun _ => trivial) | with_reducible refine And.intro ?_ ?_ | ((with_reducible refine Br.litT ?_ ?_); exact (Eq.refl true)) | ((with_reducible refine Br.litF ?_ ?_); exact (Eq.refl false)) | with_reducible refine Br.mk (fun h => ?_) (fun h => ?_) | with_reducible exact True.intro | with_reducible refine rowEq ?_ | with_reducible refine Ub.mk (fun hu => ?_) | ((with_reducible refine Late.mk ?_); exact rfl) | ((fail_if_success (with_reducible first | refine stopA ?_ | refine stopE ?_ | refine stopF ?_ | refine Exists.intro ?_ ?_ | intro _ | refine stopK ?_ | refine stopL ?_)); conv => whnf))
  all_goals (try with_reducible refine Ask.mk ?_)
  all_goals (try first | exact trivial | exact fun _ => trivial)
  all_goals (try dsimp only)
  all_goals simp
abbrev nCmp : FuncId := 45
def kCmp : Kon
 | [.int .i64 a, .int .i64 b] => some (True, .int .i64 (cmpI a b))
 | _ => none
def FCmp : Fam := ⟨Int × Int, fun (a, b) => [.int .i64 a, .int .i64 b], fun (a, b) => True, fun (a, b) => .int .i64 (cmpI a b)⟩
set_option maxHeartbeats 4000000 in
set_option maxRecDepth 100000 in
theorem pCmp : PS nCmp kCmp := by
 refine con [(nNaN, kNaN)] (by simpa using pNaN) FCmp (fun _ _ => none) kCmp ?_ ?_ Go.Proofs.Tryz.func45 (by kernel_rfl) (by kernel_rfl) (by kernel_rfl) ?_
 ·
  intro args pre s h hp
  unfold kCmp at h
  split at h
  ·
   rename_i a b; cases h; exact ⟨(a, b), by simp [FCmp, le2L, SV.le2, SV.le1, le0L, SV.le0], hp, rfl⟩
  ·
   cases h
 ·
  intro i; show 2 ≤ _; decide
 ·
  rintro ⟨a, b⟩ hp
  replace hp : True := hp
  repeat' (first | ((with_reducible refine And.intro (Ask.mk ?_) ?_); first | exact trivial | exact fun _ => trivial) | with_reducible refine And.intro ?_ ?_ | ((with_reducible refine Br.litT ?_ ?_); exact (Eq.refl true)) | ((with_reducible refine Br.litF ?_ ?_); exact (Eq.refl false)) | with_reducible refine Br.mk (fun h => ?_) (fun h => ?_) | with_reducible exact True.intro | with_reducible refine rowEq ?_ | with_reducible refine Ub.mk (fun hu => ?_) | ((with_reducible refine Late.mk ?_); exact rfl) | ((fail_if_success (with_reducible first | refine stopA ?_ | refine stopE ?_ | refine stopF ?_ | refine Exists.intro ?_ ?_ | intro _ | refine stopK ?_ | refine stopL ?_)); conv => whnf))
  all_goals (try with_reducible refine Ask.mk ?_)
  all_goals (try first | exact trivial | exact fun _ => trivial)
  all_goals (try dsimp only)
  all_goals (first | (simp at h; done) | (rename_i h0; simp at h0; done) | (simp at h; (try rename_i h0; simp at h0); simp [cmpI, *] <;> omega))
abbrev nCmp8 : FuncId := 46
def kCmp8 : Kon
 | [.int .u8 a, .int .u8 b] => some (True, .int .i64 (cmpI a b))
 | _ => none
def FCmp8 : Fam := ⟨Int × Int, fun (a, b) => [.int .u8 a, .int .u8 b], fun (a, b) => True, fun (a, b) => .int .i64 (cmpI a b)⟩
set_option maxHeartbeats 4000000 in
set_option maxRecDepth 100000 in
theorem pCmp8 : PS nCmp8 kCmp8 := by
 refine con [(nNaN8, kNaN8)] (by simpa using pNaN8) FCmp8 (fun _ _ => none) kCmp8 ?_ ?_ Go.Proofs.Tryz.func46 (by kernel_rfl) (by kernel_rfl) (by kernel_rfl) ?_
 ·
  intro args pre s h hp
  unfold kCmp8 at h
  split at h
  ·
   rename_i a b; cases h; exact ⟨(a, b), by simp [FCmp8, le2L, SV.le2, SV.le1, le0L, SV.le0], hp, rfl⟩
  ·
   cases h
 ·
  intro i; show 2 ≤ _; decide
 ·
  rintro ⟨a, b⟩ hp
  replace hp : True := hp
  repeat' (first | ((with_reducible refine And.intro (Ask.mk ?_) ?_); first | exact trivial | exact fun _ => trivial) | with_reducible refine And.intro ?_ ?_ | ((with_reducible refine Br.litT ?_ ?_); exact (Eq.refl true)) | ((with_reducible refine Br.litF ?_ ?_); exact (Eq.refl false)) | with_reducible refine Br.mk (fun h => ?_) (fun h => ?_) | with_reducible exact True.intro | with_reducible refine rowEq ?_ | with_reducible refine Ub.mk (fun hu => ?_) | ((with_reducible refine Late.mk ?_); exact rfl) | ((fail_if_success (with_reducible first | refine stopA ?_ | refine stopE ?_ | refine stopF ?_ | refine Exists.intro ?_ ?_ | intro _ | refine stopK ?_ | refine stopL ?_)); conv => whnf))
  all_goals (try with_reducible refine Ask.mk ?_)
  all_goals (try first | exact trivial | exact fun _ => trivial)
  all_goals (try dsimp only)
  all_goals (first | (simp at h; done) | (rename_i h0; simp at h0; done) | (simp at h; (try rename_i h0; simp at h0); simp [cmpI, *] <;> omega))
abbrev nCmpk : FuncId := 44
def kCmpk : Kon
 | [.int .u8 a, .int .u8 b] => some (True, .int .i64 (cmpI a b))
 | _ => none
def FCmpk : Fam := ⟨Int × Int, fun (a, b) => [.int .u8 a, .int .u8 b], fun (a, b) => True, fun (a, b) => .int .i64 (cmpI a b)⟩
set_option maxHeartbeats 4000000 in
set_option maxRecDepth 100000 in
theorem pCmpk : PS nCmpk kCmpk := by
 refine con [(nNaNk, kNaNk)] (by simpa using pNaNk) FCmpk (fun _ _ => none) kCmpk ?_ ?_ Go.Proofs.Tryz.func44 (by kernel_rfl) (by kernel_rfl) (by kernel_rfl) ?_
 ·
  intro args pre s h hp
  unfold kCmpk at h
  split at h
  ·
   rename_i a b; cases h; exact ⟨(a, b), by simp [FCmpk, le2L, SV.le2, SV.le1, le0L, SV.le0], hp, rfl⟩
  ·
   cases h
 ·
  intro i; show 2 ≤ _; decide
 ·
  rintro ⟨a, b⟩ hp
  replace hp : True := hp
  repeat' (first | ((with_reducible refine And.intro (Ask.mk ?_) ?_); first | exact trivial | exact fun _ => trivial) | with_reducible refine And.intro ?_ ?_ | ((with_reducible refine Br.litT ?_ ?_); exact (Eq.refl true)) | ((with_reducible refine Br.litF ?_ ?_); exact (Eq.refl false)) | with_reducible refine Br.mk (fun h => ?_) (fun h => ?_) | with_reducible exact True.intro | with_reducible refine rowEq ?_ | with_reducible refine Ub.mk (fun hu => ?_) | ((with_reducible refine Late.mk ?_); exact rfl) | ((fail_if_success (with_reducible first | refine stopA ?_ | refine stopE ?_ | refine stopF ?_ | refine Exists.intro ?_ ?_ | intro _ | refine stopK ?_ | refine stopL ?_)); conv => whnf))
  all_goals (try with_reducible refine Ask.mk ?_)
  all_goals (try first | exact trivial | exact fun _ => trivial)
  all_goals (try dsimp only)
  all_goals (first | (simp at h; done) | (rename_i h0; simp at h0; done) | (simp at h; (try rename_i h0; simp at h0); simp [cmpI, *] <;> omega))
def or4 (a b c d : Int) : Int := if a = 0 then (if b = 0 then (if c = 0 then d else c) else b) else a
def kOr4 : Kon
 | [.sl 1 4 f _] => match f 0, f 1, f 2, f 3 with
  | [.int .i64 a], [.int .i64 b], [.int .i64 c], [.int .i64 d] => some (True, .int .i64 (or4 a b c d))
  | _, _, _, _ => none
 | _ => none
def or4Row (a b c d : Int) (i : Nat) : List SV := [.int .i64 (tb [a, b, c, d] i)]
def FOr4 : Fam := ⟨Int × Int × Int × Int, fun (a, b, c, d) => [.sl 1 4 (or4Row a b c d) none], fun _ => True, fun (a, b, c, d) => .int .i64 (or4 a b c d)⟩
def IOr4 (a b c d : Int) : Nat → Option Inv
 | 3 => some { β := Nat, ok := fun i => i ≤ 4 ∧ ∀ j, j < i → tb [a, b, c, d] j = 0, st := fun i => ⟨[⟨8, none, .int .i64 i⟩, ⟨7, none, .int .i64 4⟩, ⟨6, none, .sl 1 4 (or4Row a b c d) none⟩, ⟨3, none, .int .i64 0⟩], []⟩, μ := fun i => 4 - i }
 | _ => none
abbrev nOr4 : FuncId := 43
set_option maxRecDepth 100000 in
theorem pOr4 : PS nOr4 kOr4 := by
 refine con [] (by simp) FOr4 (fun (a, b, c, d) => IOr4 a b c d) kOr4 ?_ ?_ Go.Proofs.Tryz.func43 (by kernel_rfl) (by kernel_rfl) (by kernel_rfl) ?_
 ·
  intro args pre s h hp
  unfold kOr4 at h
  split at h
  ·
   split at h
   ·
    rename_i f cp _ _ _ _ a b c d h0 h1 h2 h3
    cases h
    refine ⟨(a, b, c, d), ?_, trivial, rfl⟩
    simp only [FOr4, le2L, SV.le2, SV.le1, SV.le0, capLe, and_true, true_and, if_true]
    refine rowEq ?_
    intro i hi
    match i, hi with
    | 0, _ => exact h0
    | 1, _ => exact h1
    | 2, _ => exact h2
    | 3, _ => exact h3
   ·
    cases h
  ·
   cases h
 ·
  intro i; show 1 ≤ _; decide
 ·
  rintro ⟨a, b, c, d⟩ -
  repeat' (first | ((with_reducible refine And.intro (Ask.mk ?_) ?_); first | exact trivial | exact fun _ => trivial) | with_reducible refine And.intro ?_ ?_ | ((with_reducible refine Br.litT ?_ ?_); exact (Eq.refl true)) | ((with_reducible refine Br.litF ?_ ?_); exact (Eq.refl false)) | with_reducible refine Br.mk (fun h => ?_) (fun h => ?_) | with_reducible exact True.intro | with_reducible refine rowEq ?_ | with_reducible refine Ub.mk (fun hu => ?_) | ((with_reducible refine Late.mk ?_); exact rfl) | ((fail_if_success (with_reducible first | refine stopA ?_ | refine stopE ?_ | refine stopF ?_ | refine Exists.intro ?_ ?_ | intro _ | refine stopK ?_ | refine stopL ?_)); conv => whnf))
  all_goals (try with_reducible refine Ask.mk ?_)
  all_goals (try first | exact trivial | exact fun _ => trivial)
  all_goals (try dsimp only)
  refine ⟨(0 : Nat), ⟨by omega, fun j hj => by omega⟩, ?_, ?_⟩
  ·
   repeat' (first | ((with_reducible refine And.intro (Ask.mk ?_) ?_); first | exact trivial | exact fun _ => trivial) | with_reducible refine And.intro ?_ ?_ | ((with_reducible refine Br.litT ?_ ?_); exact (Eq.refl true)) | ((with_reducible refine Br.litF ?_ ?_); exact (Eq.refl false)) | with_reducible refine Br.mk (fun h => ?_) (fun h => ?_) | with_reducible exact True.intro | with_reducible refine rowEq ?_ | with_reducible refine Ub.mk (fun hu => ?_) | ((with_reducible refine Late.mk ?_); exact rfl) | ((fail_if_success (with_reducible first | refine stopA ?_ | refine stopE ?_ | refine stopF ?_ | refine Exists.intro ?_ ?_ | intro _ | refine stopK ?_ | refine stopL ?_)); conv => whnf))
   all_goals (try with_reducible refine Ask.mk ?_)
   all_goals (try first | exact trivial | exact fun _ => trivial)
   all_goals (try dsimp only)
   all_goals first | rfl | exact fun _ _ => rfl
  ·
   intro i hi
   obtain ⟨hi1, hi2⟩ := hi
   repeat' (first | ((with_reducible refine And.intro (Ask.mk ?_) ?_); first | exact trivial | exact fun _ => trivial) | with_reducible refine And.intro ?_ ?_ | ((with_reducible refine Br.litT ?_ ?_); exact (Eq.refl true)) | ((with_reducible refine Br.litF ?_ ?_); exact (Eq.refl false)) | with_reducible refine Br.mk (fun h => ?_) (fun h => ?_) | with_reducible exact True.intro | with_reducible refine rowEq ?_ | with_reducible refine Ub.mk (fun hu => ?_) | ((with_reducible refine Late.mk ?_); exact rfl) | ((fail_if_success (with_reducible first | refine stopA ?_ | refine stopE ?_ | refine stopF ?_ | refine Exists.intro ?_ ?_ | intro _ | refine stopK ?_ | refine stopL ?_)); conv => whnf))
   all_goals (try with_reducible refine Ask.mk ?_)
   all_goals (try first | exact trivial | exact fun _ => trivial)
   all_goals (try dsimp only)
   ·
    simp at h; omega
   ·
    rename_i h0; simp at h0
    have : i = 0 ∨ i = 1 ∨ i = 2 ∨ i = 3 := by omega
    rcases this with rfl | rfl | rfl | rfl
    ·
     simp [tb, or4] at h ⊢; simp [h]
    ·
     have := hi2 0 (by omega)
     simp [tb, or4] at h this ⊢; simp [h, this]
    ·
     have := hi2 0 (by omega)
     have := hi2 1 (by omega)
     simp [tb, or4] at *; simp [*]
    ·
     have := hi2 0 (by omega)
     have := hi2 1 (by omega)
     have := hi2 2 (by omega)
     simp [tb, or4] at *; simp [*]
   ·
    simp only [inK]; omega
   ·
    rename_i h0; simp at h0
    refine ⟨i + 1, ⟨by omega, fun j hj => ?_⟩, by omega, ?_⟩
    ·
     by_cases e : j = i
     ·
      subst e; simpa using h
     ·
      exact hi2 j (by omega)
    ·
     repeat' (first | ((with_reducible refine And.intro (Ask.mk ?_) ?_); first | exact trivial | exact fun _ => trivial) | with_reducible refine And.intro ?_ ?_ | ((with_reducible refine Br.litT ?_ ?_); exact (Eq.refl true)) | ((with_reducible refine Br.litF ?_ ?_); exact (Eq.refl false)) | with_reducible refine Br.mk (fun h => ?_) (fun h => ?_) | with_reducible exact True.intro | with_reducible refine rowEq ?_ | with_reducible refine Ub.mk (fun hu => ?_) | ((with_reducible refine Late.mk ?_); exact rfl) | ((fail_if_success (with_reducible first | refine stopA ?_ | refine stopE ?_ | refine stopF ?_ | refine Exists.intro ?_ ?_ | intro _ | refine stopK ?_ | refine stopL ?_)); conv => whnf))
     all_goals (try with_reducible refine Ask.mk ?_)
     all_goals (try first | exact trivial | exact fun _ => trivial)
     all_goals (try dsimp only)
     all_goals first | rfl | exact fun _ _ => rfl | omega
   ·
    simp at h
    have e0 := hi2 0 (by omega)
    have e1 := hi2 1 (by omega)
    have e2 := hi2 2 (by omega)
    have e3 := hi2 3 (by omega)
    simp [tb] at e0 e1 e2 e3
    simp [or4, e0, e1, e2, e3]
def lastI (a b : Bool) : Int := if a = b then 0 else if b = true then -1 else 1
abbrev nLast : FuncId := 47
def kLast : Kon
 | [.bool a, .bool b] => some (True, .int .i64 (lastI a b))
 | _ => none
def FLast : Fam := ⟨Bool × Bool, fun (a, b) => [.bool a, .bool b], fun (a, b) => True, fun (a, b) => .int .i64 (lastI a b)⟩
set_option maxHeartbeats 4000000 in
set_option maxRecDepth 100000 in
theorem pLast : PS nLast kLast := by
 refine con [] (by simp) FLast (fun _ _ => none) kLast ?_ ?_ Go.Proofs.Tryz.func47 (by kernel_rfl) (by kernel_rfl) (by kernel_rfl) ?_
 ·
  intro args pre s h hp
  unfold kLast at h
  split at h
  ·
   rename_i a b; cases h; exact ⟨(a, b), by simp [FLast, le2L, SV.le2, SV.le1, le0L, SV.le0], hp, rfl⟩
  ·
   cases h
 ·
  intro i; show 2 ≤ _; decide
 ·
  rintro ⟨a, b⟩ hp
  replace hp : True := hp
  repeat' (first | ((with_reducible refine And.intro (Ask.mk ?_) ?_); first | exact trivial | exact fun _ => trivial) | with_reducible refine And.intro ?_ ?_ | ((with_reducible refine Br.litT ?_ ?_); exact (Eq.refl true)) | ((with_reducible refine Br.litF ?_ ?_); exact (Eq.refl false)) | with_reducible refine Br.mk (fun h => ?_) (fun h => ?_) | with_reducible exact True.intro | with_reducible refine rowEq ?_ | with_reducible refine Ub.mk (fun hu => ?_) | ((with_reducible refine Late.mk ?_); exact rfl) | ((fail_if_success (with_reducible first | refine stopA ?_ | refine stopE ?_ | refine stopF ?_ | refine Exists.intro ?_ ?_ | intro _ | refine stopK ?_ | refine stopL ?_)); conv => whnf))
  all_goals (try with_reducible refine Ask.mk ?_)
  all_goals (try first | exact trivial | exact fun _ => trivial)
  all_goals (try dsimp only)
  all_goals (first | (simp at h; done) | (simp [lastI, *]; done) | (cases a <;> cases b <;> simp_all [lastI]; done) | trace_state)
def cmpF (k C s : Int) (o : Bool) (k' C' s' : Int) (o' : Bool) : Int := or4 (cmpI k k') (cmpI C C') (cmpI s s') (lastI o o')
abbrev nFCompare : FuncId := 16
def kFCompare : Kon
 | [.agg [.int .u8 k, .int .i64 C, .int .u8 s, .bool o], .agg [.int .u8 k', .int .i64 C', .int .u8 s', .bool o']] => some (True, .int .i64 (cmpF k C s o k' C' s' o'))
 | _ => none
def FFCompare : Fam := ⟨Int × Int × Int × Bool × Int × Int × Int × Bool, fun (k, C, s, o, k', C', s', o') => [.agg [.int .u8 k, .int .i64 C, .int .u8 s, .bool o], .agg [.int .u8 k', .int .i64 C', .int .u8 s', .bool o']], fun (k, C, s, o, k', C', s', o') => True, fun (k, C, s, o, k', C', s', o') => .int .i64 (cmpF k C s o k' C' s' o')⟩
set_option maxHeartbeats 4000000 in
set_option maxRecDepth 100000 in
theorem pFCompare : PS nFCompare kFCompare := by
 refine con [(nCmpk, kCmpk), (nCmp, kCmp), (nCmp8, kCmp8), (nLast, kLast), (nOr4, kOr4)] (by simpa using ⟨pCmpk, pCmp, pCmp8, pLast, pOr4⟩) FFCompare (fun _ _ => none) kFCompare ?_ ?_ Go.Proofs.Tryz.func16 (by kernel_rfl) (by kernel_rfl) (by kernel_rfl) ?_
 ·
  intro args pre s h hp
  unfold kFCompare at h
  split at h
  ·
   rename_i k C s o k' C' s' o'; cases h; exact ⟨(k, C, s, o, k', C', s', o'), by simp [FFCompare, le2L, SV.le2, SV.le1, le0L, SV.le0], hp, rfl⟩
  ·
   cases h
 ·
  intro i; show 2 ≤ _; decide
 ·
  rintro ⟨k, C, s, o, k', C', s', o'⟩ hp
  replace hp : True := hp
  repeat' (first | ((with_reducible refine And.intro (Ask.mk ?_) ?_); first | exact trivial | exact fun _ => trivial) | with_reducible refine And.intro ?_ ?_ | ((with_reducible refine Br.litT ?_ ?_); exact (Eq.refl true)) | ((with_reducible refine Br.litF ?_ ?_); exact (Eq.refl false)) | with_reducible refine Br.mk (fun h => ?_) (fun h => ?_) | with_reducible exact True.intro | with_reducible refine rowEq ?_ | with_reducible refine Ub.mk (fun hu => ?_) | ((with_reducible refine Late.mk ?_); exact rfl) | ((fail_if_success (with_reducible first | refine stopA ?_ | refine stopE ?_ | refine stopF ?_ | refine Exists.intro ?_ ?_ | intro _ | refine stopK ?_ | refine stopL ?_)); conv => whnf))
  all_goals (try with_reducible refine Ask.mk ?_)
  all_goals (try first | exact trivial | exact fun _ => trivial)
  all_goals (try dsimp only)
  all_goals first | rfl | trace_state
end Go.Proofs.YteodgliliglipaaGreatDoor.V
