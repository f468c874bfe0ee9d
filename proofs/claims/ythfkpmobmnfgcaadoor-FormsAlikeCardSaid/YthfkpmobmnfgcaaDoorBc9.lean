/-
  Parts of the proof: P6 P24 R1 R2 R3 R4 L2. Conditions: none.
-/
import Derived.Test.YthfkpmobmnfgcaaDoorBc3
import Derived.Test.YthfkpmobmnfgcaaDoorBc8
import Derived.ProofKit
import Derived.LaidMore
import Derived.LaidHandle
import Derived.OpenShut
import Derived.Carry
import Derived.Stop.Joined
import Derived.Test.YthfkpmobmnfgcaaDoorChecked
/-
  Contracts: the neighbours, edges and middles of the document's own answer. Conditions: none.
-/
namespace Go.Proofs.YthfkpmobmnfgcaaDoor.V
open Go

def n25X (W i k : Int) : Int := byX (i / 4 % W) (i % 4) k
def n25Y (W i k : Int) : Int := byY (i / 4 / W) (i % 4) k
def n25 (W H i k : Int) : Int := if n25X W i k < 0 ∨ n25Y W i k < 0 ∨ W ≤ n25X W i k ∨ H ≤ n25Y W i k then -1 else 4 * (n25Y W i k * W + n25X W i k) + byQ (i % 4) k
theorem c25_le {W i : Int} (h1 : 1 ≤ W) (h2 : W ≤ 256) (h3 : 0 ≤ i) (h4 : i ≤ 1024) : 0 ≤ i / 4 % W ∧ i / 4 % W < W ∧ 0 ≤ i / 4 / W ∧ i / 4 / W ≤ 256 ∧ 0 ≤ i % 4 ∧ i % 4 ≤ 3 := by
  have a5 : i / 4 / W ≤ i / 4 := Int.ediv_le_self _ (by omega)
  have a6 : 0 ≤ i / 4 / W := Int.ediv_nonneg (by omega) (by omega)
  have a7 : 0 ≤ i / 4 % W := Int.emod_nonneg _ (by omega)
  have a8 : i / 4 % W < W := Int.emod_lt_of_pos _ (by omega)
  omega
theorem n25_le {W i k : Int} (h1 : 1 ≤ W) (h2 : W ≤ 256) (h3 : 0 ≤ i) (h4 : i ≤ 1024) : -1 ≤ n25X W i k ∧ n25X W i k ≤ 257 ∧ -1 ≤ n25Y W i k ∧ n25Y W i k ≤ 257 ∧ 0 ≤ byQ (i % 4) k ∧ byQ (i % 4) k ≤ 3 := by
  have := c25_le h1 h2 h3 h4
  unfold n25X n25Y byX byY byQ
  refine ⟨?_, ?_, ?_, ?_, ?_, ?_⟩ <;> (repeat' split) <;> omega
abbrev nN25 : FuncId := 19
def kN25 : Kon
  | [.agg [.int .i64 W, .int .i64 H], .int .i64 i, .int .i64 k] => some (1 ≤ W ∧ W ≤ 256 ∧ 0 ≤ i ∧ i ≤ 1024, .int .i64 (n25 W H i k))
  | _ => none
def FN25 : Fam := ⟨Int × Int × Int × Int, fun (W, H, i, k) => [.agg [.int .i64 W, .int .i64 H], .int .i64 i, .int .i64 k], fun (W, H, i, k) => 1 ≤ W ∧ W ≤ 256 ∧ 0 ≤ i ∧ i ≤ 1024, fun (W, H, i, k) => .int .i64 (n25 W H i k)⟩
set_option maxHeartbeats 4000000 in
set_option maxRecDepth 100000 in
theorem pN25 : PS nN25 kN25 := by
  refine con [(nCell25, kCell25), (nBeyond, kBeyond)] (by simpa using ⟨pCell25, pBeyond⟩) FN25 (fun _ _ => none) kN25 ?_ ?_ Go.Proofs.Tryd.func19 (by kernel_rfl) (by kernel_rfl) (by kernel_rfl) ?_
  · intro args pre s h hp
    unfold kN25 at h
    split at h
    · rename_i W H i k; cases h; exact ⟨(W, H, i, k), by simp [FN25, le2L, SV.le2, SV.le1, le0L, SV.le0], hp, rfl⟩
    · cases h
  · intro i; show 3 ≤ _; decide
  · rintro ⟨W, H, i, k⟩ hp
    replace hp : 1 ≤ W ∧ W ≤ 256 ∧ 0 ≤ i ∧ i ≤ 1024 := hp
    obtain ⟨h1, h2, h3, h4⟩ := hp
    have b1 := c25_le h1 h2 h3 h4
    have b2 := n25_le (k := k) h1 h2 h3 h4
    have b3 : 0 ≤ n25Y W i k → 0 ≤ n25Y W i k * W ∧ n25Y W i k * W ≤ 257 * 256 := fun h => ⟨Int.mul_nonneg h (by omega), Int.mul_le_mul (by omega) (by omega) (by omega) (by omega)⟩
    simp only [n25X, n25Y] at b2 b3
    repeat (any_goals (first
      | (with_reducible refine And.intro (Ask.mk ?_) ?_
         first | exact trivial | exact fun _ => trivial)
      | with_reducible refine And.intro ?_ ?_
      | with_reducible refine Br.mk (fun h => ?_) (fun h => ?_)
      | with_reducible exact True.intro
      | (with_reducible refine Late.mk ?_
         exact rfl)
      | (fail_if_success with_reducible apply stopA
         fail_if_success with_reducible apply stopE
         fail_if_success with_reducible apply stopF
         fail_if_success with_reducible apply Exists.intro
         fail_if_success with_reducible intro _
         fail_if_success with_reducible apply stopK
         fail_if_success with_reducible apply stopL
         conv => whnf)))
    all_goals (try with_reducible refine Ask.mk ?_)
    all_goals (try first | exact trivial | exact fun _ => trivial)
    all_goals (try dsimp only)
    · omega
    · omega
    all_goals (simp at h)
    all_goals (try simp only [n25, n25X, n25Y])
    all_goals (try simp only [inK])
    all_goals (try omega)

def e28 (W H a b : Int) : Int := if n25 W H a 1 = b ∨ n25 W H a 2 = b then (if a % 4 + b % 4 = 1 ∨ a % 4 + b % 4 = 5 then 1 else 2) else 0
def IE28 (W H a b : Int) : Nat → Option Inv
  | 2 => some { β := Nat, ok := fun k => 1 ≤ k ∧ k ≤ 3 ∧ ∀ j : Nat, 1 ≤ j → j < k → n25 W H a j ≠ b, st := fun k => ⟨[⟨7, none, .int .i64 k⟩, ⟨3, none, .own 0 0⟩, ⟨1, none, .int .i64 a⟩, ⟨2, none, .int .i64 b⟩], [.cells 26 [.int .i64 W, .int .i64 H]]⟩, μ := fun k => 3 - k }
  | _ => none
abbrev nE28 : FuncId := 20
def kE28 : Kon
  | [.agg [.int .i64 W, .int .i64 H], .int .i64 a, .int .i64 b] => some (1 ≤ W ∧ W ≤ 256 ∧ 0 ≤ a ∧ a ≤ 1024 ∧ 0 ≤ b, .int .u8 (e28 W H a b))
  | _ => none
def FE28 : Fam := ⟨Int × Int × Int × Int, fun (W, H, a, b) => [.agg [.int .i64 W, .int .i64 H], .int .i64 a, .int .i64 b], fun (W, H, a, b) => 1 ≤ W ∧ W ≤ 256 ∧ 0 ≤ a ∧ a ≤ 1024 ∧ 0 ≤ b, fun (W, H, a, b) => .int .u8 (e28 W H a b)⟩
set_option maxHeartbeats 4000000 in
set_option maxRecDepth 100000 in
theorem pE28 : PS nE28 kE28 := by
  refine con [(nN25, kN25)] (by simpa using pN25) FE28 (fun (W, H, a, b) => IE28 W H a b) kE28 ?_ ?_ Go.Proofs.Tryd.func20 (by kernel_rfl) (by kernel_rfl) (by kernel_rfl) ?_
  · intro args pre s h hp
    unfold kE28 at h
    split at h
    · rename_i W H a b; cases h; exact ⟨(W, H, a, b), by simp [FE28, le2L, SV.le2, SV.le1, le0L, SV.le0], hp, rfl⟩
    · cases h
  · intro i; show 3 ≤ _; decide
  · rintro ⟨W, H, a, b⟩ hp
    replace hp : 1 ≤ W ∧ W ≤ 256 ∧ 0 ≤ a ∧ a ≤ 1024 ∧ 0 ≤ b := hp
    have a1 : a.tmod 4 = a % 4 := Int.tmod_eq_emod_of_nonneg (by omega)
    have a2 : b.tmod 4 = b % 4 := Int.tmod_eq_emod_of_nonneg (by omega)
    repeat (any_goals (first
      | (with_reducible refine And.intro (Ask.mk ?_) ?_
         first | exact trivial | exact fun _ => trivial)
      | with_reducible refine And.intro ?_ ?_
      | with_reducible refine Br.mk (fun h => ?_) (fun h => ?_)
      | with_reducible exact True.intro
      | (with_reducible refine Late.mk ?_
         exact rfl)
      | (fail_if_success with_reducible apply stopA
         fail_if_success with_reducible apply stopE
         fail_if_success with_reducible apply stopF
         fail_if_success with_reducible apply Exists.intro
         fail_if_success with_reducible intro _
         fail_if_success with_reducible apply stopK
         fail_if_success with_reducible apply stopL
         conv => whnf)))
    all_goals (try with_reducible refine Ask.mk ?_)
    all_goals (try first | exact trivial | exact fun _ => trivial)
    all_goals (try dsimp only)
    refine ⟨(1 : Nat), ⟨by omega, by omega, fun j hj hj' => by omega⟩, ?_, ?_⟩
    · repeat (any_goals (first
        | (with_reducible refine And.intro (Ask.mk ?_) ?_
           first | exact trivial | exact fun _ => trivial)
        | with_reducible refine And.intro ?_ ?_
        | with_reducible refine Br.mk (fun h => ?_) (fun h => ?_)
        | with_reducible exact True.intro
        | (with_reducible refine Late.mk ?_
           exact rfl)
        | (fail_if_success with_reducible apply stopA
           fail_if_success with_reducible apply stopE
           fail_if_success with_reducible apply stopF
           fail_if_success with_reducible apply Exists.intro
           fail_if_success with_reducible intro _
           fail_if_success with_reducible apply stopK
           fail_if_success with_reducible apply stopL
           conv => whnf)))
      all_goals (try with_reducible refine Ask.mk ?_)
      all_goals (try first | exact trivial | exact fun _ => trivial)
      all_goals (try dsimp only)
      all_goals first | rfl | skip
    · rintro k ⟨k1, k2, k3⟩
      repeat (any_goals (first
        | (with_reducible refine And.intro (Ask.mk ?_) ?_
           first | exact trivial | exact fun _ => trivial)
        | with_reducible refine And.intro ?_ ?_
        | with_reducible refine Br.mk (fun h => ?_) (fun h => ?_)
        | with_reducible exact True.intro
        | (with_reducible refine Late.mk ?_
           exact rfl)
        | (fail_if_success with_reducible apply stopA
           fail_if_success with_reducible apply stopE
           fail_if_success with_reducible apply stopF
           fail_if_success with_reducible apply Exists.intro
           fail_if_success with_reducible intro _
           fail_if_success with_reducible apply stopK
           fail_if_success with_reducible apply stopL
           conv => whnf)))
      all_goals (try with_reducible refine Ask.mk ?_)
      all_goals (try first | exact trivial | exact fun _ => trivial)
      all_goals (try dsimp only)
      all_goals (try omega)
      all_goals (try (simp only [inK]; omega))
      all_goals (try simp only [a1, a2] at h)
      all_goals (try (exfalso; omega))
      all_goals (try (simp only [a1, a2, inK]; omega))
      · rename_i h0; simp at h0 h
        refine ⟨k + 1, ⟨by omega, by omega, fun j hj hj' => ?_⟩, by omega, ?_⟩
        · by_cases e : j = k
          · subst e; exact h
          · exact k3 j hj (by omega)
        · repeat (any_goals (first
            | (with_reducible refine And.intro (Ask.mk ?_) ?_
               first | exact trivial | exact fun _ => trivial)
            | with_reducible refine And.intro ?_ ?_
            | with_reducible refine Br.mk (fun h => ?_) (fun h => ?_)
            | with_reducible exact True.intro
            | (with_reducible refine Late.mk ?_
               exact rfl)
            | (fail_if_success with_reducible apply stopA
               fail_if_success with_reducible apply stopE
               fail_if_success with_reducible apply stopF
               fail_if_success with_reducible apply Exists.intro
               fail_if_success with_reducible intro _
               fail_if_success with_reducible apply stopK
               fail_if_success with_reducible apply stopL
               conv => whnf)))
          all_goals (try with_reducible refine Ask.mk ?_)
          all_goals (try first | exact trivial | exact fun _ => trivial)
          all_goals (try dsimp only)
          all_goals first | rfl | omega | skip
      · rename_i h1 h0; simp at h0 h1 h
        have e : n25 W H a 1 = b ∨ n25 W H a 2 = b := by
          have : k = 1 ∨ k = 2 := by omega
          rcases this with rfl | rfl
          · exact .inl h0
          · exact .inr h0
        rw [e28, if_pos e, if_pos h]
      · rename_i h1 h0; simp at h0 h1 h
        have e : n25 W H a 1 = b ∨ n25 W H a 2 = b := by
          have : k = 1 ∨ k = 2 := by omega
          rcases this with rfl | rfl
          · exact .inl h0
          · exact .inr h0
        rw [e28, if_pos e, if_neg (by omega)]
      · simp at h
        have e1 := k3 1 (by omega) (by omega)
        have e2 := k3 2 (by omega) (by omega)
        rw [e28, if_neg]
        rintro (e | e)
        · exact e1 e
        · exact e2 e

def mdX (W a b : Int) : Int := inX (a / 4 % W) (a % 4) + inX (b / 4 % W) (b % 4) - 6 * W
def mdY (W H a b : Int) : Int := inY (a / 4 / W) (a % 4) + inY (b / 4 / W) (b % 4) - 6 * H
theorem in_le {X Y Q : Int} (h1 : 0 ≤ X) (h2 : X ≤ 4096) (h3 : 0 ≤ Y) (h4 : Y ≤ 4096) : 0 ≤ inX X Q ∧ inX X Q ≤ 30000 ∧ 0 ≤ inY Y Q ∧ inY Y Q ≤ 30000 := by
  unfold inX inY
  refine ⟨?_, ?_, ?_, ?_⟩ <;> (repeat' split) <;> omega
abbrev nMiddle : FuncId := 25
def kMiddle : Kon
  | [.agg [.int .i64 W, .int .i64 H], .int .i64 a, .int .i64 b] => some (1 ≤ W ∧ W ≤ 256 ∧ 1 ≤ H ∧ H ≤ 256 ∧ 0 ≤ a ∧ a ≤ 1024 ∧ 0 ≤ b ∧ b ≤ 1024, .agg [.int .i64 (mdX W a b), .int .i64 (mdY W H a b)])
  | _ => none
def FMiddle : Fam := ⟨Int × Int × Int × Int, fun (W, H, a, b) => [.agg [.int .i64 W, .int .i64 H], .int .i64 a, .int .i64 b], fun (W, H, a, b) => 1 ≤ W ∧ W ≤ 256 ∧ 1 ≤ H ∧ H ≤ 256 ∧ 0 ≤ a ∧ a ≤ 1024 ∧ 0 ≤ b ∧ b ≤ 1024, fun (W, H, a, b) => .agg [.int .i64 (mdX W a b), .int .i64 (mdY W H a b)]⟩
set_option maxHeartbeats 4000000 in
set_option maxRecDepth 100000 in
theorem pMiddle : PS nMiddle kMiddle := by
  refine con [(nCell25, kCell25), (nInside, kInside)] (by simpa using ⟨pCell25, pInside⟩) FMiddle (fun _ _ => none) kMiddle ?_ ?_ Go.Proofs.Tryd.func25 (by kernel_rfl) (by kernel_rfl) (by kernel_rfl) ?_
  · intro args pre s h hp
    unfold kMiddle at h
    split at h
    · rename_i W H a b; cases h; exact ⟨(W, H, a, b), by simp [FMiddle, le2L, SV.le2, SV.le1, le0L, SV.le0], hp, rfl⟩
    · cases h
  · intro i; show 3 ≤ _; decide
  · rintro ⟨W, H, a, b⟩ hp
    replace hp : 1 ≤ W ∧ W ≤ 256 ∧ 1 ≤ H ∧ H ≤ 256 ∧ 0 ≤ a ∧ a ≤ 1024 ∧ 0 ≤ b ∧ b ≤ 1024 := hp
    obtain ⟨h1, h2, h3, h4, h5, h6, h7, h8⟩ := hp
    have b1 := c25_le h1 h2 h5 h6
    have b2 := c25_le h1 h2 h7 h8
    have b3 := in_le (X := a / 4 % W) (Y := a / 4 / W) (Q := a % 4) (by omega) (by omega) (by omega) (by omega)
    have b4 := in_le (X := b / 4 % W) (Y := b / 4 / W) (Q := b % 4) (by omega) (by omega) (by omega) (by omega)
    repeat (any_goals (first
      | (with_reducible refine And.intro (Ask.mk ?_) ?_
         first | exact trivial | exact fun _ => trivial)
      | with_reducible refine And.intro ?_ ?_
      | with_reducible refine Br.mk (fun h => ?_) (fun h => ?_)
      | with_reducible exact True.intro
      | (with_reducible refine Late.mk ?_
         exact rfl)
      | (fail_if_success with_reducible apply stopA
         fail_if_success with_reducible apply stopE
         fail_if_success with_reducible apply stopF
         fail_if_success with_reducible apply Exists.intro
         fail_if_success with_reducible intro _
         fail_if_success with_reducible apply stopK
         fail_if_success with_reducible apply stopL
         conv => whnf)))
    all_goals (try with_reducible refine Ask.mk ?_)
    all_goals (try first | exact trivial | exact fun _ => trivial)
    all_goals (try dsimp only)
    all_goals (try simp only [inK])
    all_goals first | omega | rfl

def rot : Nat → Int × Int → Int × Int
  | 0, p => p
  | n + 1, p => (-(rot n p).2, (rot n p).1)
def tuP (x y t : Int) : Int × Int := rot (t % 4).toNat (if t > 3 then -x else x, y)
theorem rot_le {B : Int} {p : Int × Int} (h1 : -B ≤ p.1) (h2 : p.1 ≤ B) (h3 : -B ≤ p.2) (h4 : p.2 ≤ B) : ∀ n, -B ≤ (rot n p).1 ∧ (rot n p).1 ≤ B ∧ -B ≤ (rot n p).2 ∧ (rot n p).2 ≤ B
  | 0 => ⟨h1, h2, h3, h4⟩
  | n + 1 => by have := rot_le h1 h2 h3 h4 n; simp only [rot]; omega
def IT26 (x y t : Int) : Nat → Option Inv
  | 4 => some { β := Nat, ok := fun k => (k : Int) ≤ t % 4, st := fun k => ⟨[⟨5, none, .int .i64 k⟩, ⟨1, none, .int .i64 t⟩, ⟨2, none, .own 0 0⟩, ⟨4, none, .own 1 0⟩], [.cells 62 [.int .i64 (rot k (if t > 3 then -x else x, y)).1, .int .i64 (rot k (if t > 3 then -x else x, y)).2], .cells 62 [.int .i64 0, .int .i64 0]]⟩, μ := fun k => 4 - k }
  | _ => none
abbrev nT26 : FuncId := 26
def kT26 : Kon
  | [.agg [.int .i64 x, .int .i64 y], .int .i64 t] => some (-100000 ≤ x ∧ x ≤ 100000 ∧ -100000 ≤ y ∧ y ≤ 100000 ∧ 0 ≤ t, .agg [.int .i64 (tuP x y t).1, .int .i64 (tuP x y t).2])
  | _ => none
def FT26 : Fam := ⟨Int × Int × Int, fun (x, y, t) => [.agg [.int .i64 x, .int .i64 y], .int .i64 t], fun (x, y, t) => -100000 ≤ x ∧ x ≤ 100000 ∧ -100000 ≤ y ∧ y ≤ 100000 ∧ 0 ≤ t, fun (x, y, t) => .agg [.int .i64 (tuP x y t).1, .int .i64 (tuP x y t).2]⟩
set_option maxHeartbeats 4000000 in
set_option maxRecDepth 100000 in
theorem pT26 : PS nT26 kT26 := by
  refine con [] (by simp) FT26 (fun (x, y, t) => IT26 x y t) kT26 ?_ ?_ Go.Proofs.Tryd.func26 (by kernel_rfl) (by kernel_rfl) (by kernel_rfl) ?_
  · intro args pre s h hp
    unfold kT26 at h
    split at h
    · rename_i x y t; cases h; exact ⟨(x, y, t), by simp [FT26, le2L, SV.le2, SV.le1, le0L, SV.le0], hp, rfl⟩
    · cases h
  · intro i; show 2 ≤ _; decide
  · rintro ⟨x, y, t⟩ hp
    replace hp : -100000 ≤ x ∧ x ≤ 100000 ∧ -100000 ≤ y ∧ y ≤ 100000 ∧ 0 ≤ t := hp
    have a1 : t.tmod 4 = t % 4 := Int.tmod_eq_emod_of_nonneg (by omega)
    repeat (any_goals (first
      | (with_reducible refine And.intro (Ask.mk ?_) ?_
         first | exact trivial | exact fun _ => trivial)
      | with_reducible refine And.intro ?_ ?_
      | with_reducible refine Br.mk (fun h => ?_) (fun h => ?_)
      | with_reducible exact True.intro
      | (with_reducible refine Late.mk ?_
         exact rfl)
      | (fail_if_success with_reducible apply stopA
         fail_if_success with_reducible apply stopE
         fail_if_success with_reducible apply stopF
         fail_if_success with_reducible apply Exists.intro
         fail_if_success with_reducible intro _
         fail_if_success with_reducible apply stopK
         fail_if_success with_reducible apply stopL
         conv => whnf)))
    all_goals (try with_reducible refine Ask.mk ?_)
    all_goals (try first | exact trivial | exact fun _ => trivial)
    all_goals (try dsimp only)
    · simp only [inK]; omega
    all_goals (refine ⟨(0 : Nat), by omega, ?_, ?_⟩)
    · repeat (any_goals (first
        | (with_reducible refine And.intro (Ask.mk ?_) ?_
           first | exact trivial | exact fun _ => trivial)
        | with_reducible refine And.intro ?_ ?_
        | with_reducible refine Br.mk (fun h => ?_) (fun h => ?_)
        | with_reducible exact True.intro
        | (with_reducible refine Late.mk ?_
           exact rfl)
        | (fail_if_success with_reducible apply stopA
           fail_if_success with_reducible apply stopE
           fail_if_success with_reducible apply stopF
           fail_if_success with_reducible apply Exists.intro
           fail_if_success with_reducible intro _
           fail_if_success with_reducible apply stopK
           fail_if_success with_reducible apply stopL
           conv => whnf)))
      all_goals (try with_reducible refine Ask.mk ?_)
      all_goals (try first | exact trivial | exact fun _ => trivial)
      all_goals (try dsimp only)
      all_goals first | rfl | (simp at h; simp [rot, h]; done) | skip
    rotate_left
    · repeat (any_goals (first
        | (with_reducible refine And.intro (Ask.mk ?_) ?_
           first | exact trivial | exact fun _ => trivial)
        | with_reducible refine And.intro ?_ ?_
        | with_reducible refine Br.mk (fun h => ?_) (fun h => ?_)
        | with_reducible exact True.intro
        | (with_reducible refine Late.mk ?_
           exact rfl)
        | (fail_if_success with_reducible apply stopA
           fail_if_success with_reducible apply stopE
           fail_if_success with_reducible apply stopF
           fail_if_success with_reducible apply Exists.intro
           fail_if_success with_reducible intro _
           fail_if_success with_reducible apply stopK
           fail_if_success with_reducible apply stopL
           conv => whnf)))
      all_goals (try with_reducible refine Ask.mk ?_)
      all_goals (try first | exact trivial | exact fun _ => trivial)
      all_goals (try dsimp only)
      all_goals first | rfl | (simp at h; simp [rot, h]; done) | (simp at h; simp [rot]; omega) | skip
    all_goals
      intro k hk
      replace hk : (k : Int) ≤ t % 4 := hk
      have b := rot_le (B := 100000) (p := (if t > 3 then -x else x, y)) (by dsimp only; split <;> omega) (by dsimp only; split <;> omega) (by dsimp only; omega) (by dsimp only; omega) k
      repeat (any_goals (first
        | (with_reducible refine And.intro (Ask.mk ?_) ?_
           first | exact trivial | exact fun _ => trivial)
        | with_reducible refine And.intro ?_ ?_
        | with_reducible refine Br.mk (fun h => ?_) (fun h => ?_)
        | with_reducible exact True.intro
        | (with_reducible refine Late.mk ?_
           exact rfl)
        | (fail_if_success with_reducible apply stopA
           fail_if_success with_reducible apply stopE
           fail_if_success with_reducible apply stopF
           fail_if_success with_reducible apply Exists.intro
           fail_if_success with_reducible intro _
           fail_if_success with_reducible apply stopK
           fail_if_success with_reducible apply stopL
           conv => whnf)))
      all_goals (try with_reducible refine Ask.mk ?_)
      all_goals (try first | exact trivial | exact fun _ => trivial)
      all_goals (try dsimp only)
      all_goals (try (simp only [inK]; omega))
      all_goals (try omega)
      all_goals (simp only [a1] at h; simp at h)
      · refine ⟨k + 1, by omega, by omega, ?_⟩
        repeat (any_goals (first
          | (with_reducible refine And.intro (Ask.mk ?_) ?_
             first | exact trivial | exact fun _ => trivial)
          | with_reducible refine And.intro ?_ ?_
          | with_reducible refine Br.mk (fun h => ?_) (fun h => ?_)
          | with_reducible exact True.intro
          | (with_reducible refine Late.mk ?_
             exact rfl)
          | (fail_if_success with_reducible apply stopA
             fail_if_success with_reducible apply stopE
             fail_if_success with_reducible apply stopF
             fail_if_success with_reducible apply Exists.intro
             fail_if_success with_reducible intro _
             fail_if_success with_reducible apply stopK
             fail_if_success with_reducible apply stopL
             conv => whnf)))
        all_goals (try with_reducible refine Ask.mk ?_)
        all_goals (try first | exact trivial | exact fun _ => trivial)
        all_goals (try dsimp only)
        all_goals first | rfl | omega
      · have e : (t % 4).toNat = k := by omega
        rw [tuP, e]
      · have e : (t % 4).toNat = k := by omega
        rw [tuP, e]

end Go.Proofs.YthfkpmobmnfgcaaDoor.V

/-
  P.Of: the pattern that plain data stand for. Conditions: none.
-/
namespace Go.Proofs.YthfkpmobmnfgcaaDoor.V
open Go

structure PV where
  W : Int
  H : Int
  L : List Cr
def trSV (x : Cr) : List SV := [.int .u8 x.c, .int .u8 x.e, .int .u8 x.k]
def trRow (l : List Cr) (i : Nat) : List SV := trSV (l.getD i d0)
def PV.w (x : PV) : Int := 1 + x.W % 3
def PV.h (x : PV) : Int := 1 + x.H % 3
def PV.n (x : PV) : Int := 4 * x.w * x.h
def PV.ok (x : PV) : Prop := inK .u8 x.W ∧ inK .u8 x.H ∧ ∀ t ∈ x.L, inK .u8 t.c ∧ inK .u8 t.e ∧ inK .u8 t.k
def PV.a (x : PV) (t : Cr) : Int := t.c % x.n
def PV.b (x : PV) (t : Cr) : Int := n25 x.w x.h (x.a t) (t.e % 3)
def PV.cr (x : PV) (t : Cr) : Cr := if x.b t < x.a t then ⟨x.b t, e28 x.w x.h (x.b t) (x.a t), 1 + t.k % 3⟩ else ⟨x.a t, e28 x.w x.h (x.a t) (x.b t), 1 + t.k % 3⟩
def sameU (c y : Cr) : Bool := decide (y.c = c.c) && decide (y.e = c.e)
def PV.step (x : PV) (acc : List Cr) (t : Cr) : List Cr := if x.b t < 0 then acc else if acc.any (sameU (x.cr t)) then acc else acc ++ [x.cr t]
def PV.acc (x : PV) (i : Nat) : List Cr := (x.L.take i).foldl x.step []
def PV.cnt (x : PV) : Nat := min 30 x.L.length
def ofP (x : PV) : Pt := ⟨x.w, x.h, sortCr (x.acc x.cnt)⟩
theorem PV.acc_succ (x : PV) {i : Nat} (hi : i < x.L.length) : x.acc (i + 1) = x.step (x.acc i) (x.L.getD i d0) := by
  have : x.L.take (i + 1) = x.L.take i ++ [x.L.getD i d0] := by
    rw [List.take_add_one]
    simp [List.getD_eq_getElem?_getD, hi]
  simp [PV.acc, this]
theorem PV.acc_len (x : PV) : ∀ i, (x.acc i).length ≤ i := by
  intro i
  have key : ∀ (l acc : List Cr), (l.foldl x.step acc).length ≤ acc.length + l.length := by
    intro l
    induction l with
    | nil => intro acc; simp
    | cons t l ih =>
      intro acc
      simp only [List.foldl_cons, List.length_cons]
      have h1 := ih (x.step acc t)
      have h2 : (x.step acc t).length ≤ acc.length + 1 := by
        unfold PV.step
        split
        · omega
        · split <;> simp
      omega
  have := key (x.L.take i) []
  simp only [List.length_nil, List.length_take] at this
  unfold PV.acc
  omega
theorem PV.units_step (x : PV) {acc : List Cr} {t : Cr} (h : unitsOK acc) : unitsOK (x.step acc t) := by
  unfold PV.step
  split
  · exact h
  · split
    · exact h
    · rename_i hb ha
      unfold unitsOK
      rw [List.pairwise_append]
      refine ⟨h, List.pairwise_singleton _ _, fun y hy z hz => ?_⟩
      obtain rfl : z = x.cr t := by simpa using hz
      have ha' : acc.any (sameU (x.cr t)) = false := by simpa using ha
      have := List.any_eq_false.1 ha' y hy
      simp only [sameU, Bool.and_eq_true, decide_eq_true_eq] at this
      exact this
theorem PV.units (x : PV) (i : Nat) : unitsOK (x.acc i) := by
  have key : ∀ (l acc : List Cr), unitsOK acc → unitsOK (l.foldl x.step acc) := by
    intro l
    induction l with
    | nil => intro acc h; exact h
    | cons t l ih => intro acc h; exact ih _ (x.units_step h)
  exact key _ [] .nil

theorem PV.sh {x : PV} (h : x.ok) : 1 ≤ x.w ∧ x.w ≤ 3 ∧ 1 ≤ x.h ∧ x.h ≤ 3 := by
  obtain ⟨h1, h2, _⟩ := h
  simp only [inK] at h1 h2
  simp only [PV.w, PV.h]
  omega
theorem PV.n_pos {x : PV} (h : x.ok) : 4 ≤ x.n ∧ x.n ≤ 36 := by
  obtain ⟨h1, h2, h3, h4⟩ := x.sh h
  have e1 : x.w = 1 ∨ x.w = 2 ∨ x.w = 3 := by omega
  have e2 : x.h = 1 ∨ x.h = 2 ∨ x.h = 3 := by omega
  unfold PV.n
  rcases e1 with e1 | e1 | e1 <;> rcases e2 with e2 | e2 | e2 <;> rw [e1, e2] <;> omega
theorem n25_lt {W H i k : Int} (h1 : 1 ≤ W) (h2 : W ≤ 3) (h3 : 1 ≤ H) (h4 : H ≤ 3) (h5 : 0 ≤ i) (h6 : i ≤ 1024) : -1 ≤ n25 W H i k ∧ n25 W H i k < 4 * W * H := by
  have b := n25_le (k := k) h1 (by omega) h5 h6
  have e1 : W = 1 ∨ W = 2 ∨ W = 3 := by omega
  have e2 : H = 1 ∨ H = 2 ∨ H = 3 := by omega
  unfold n25
  split
  · rcases e1 with rfl | rfl | rfl <;> rcases e2 with rfl | rfl | rfl <;> omega
  · rcases e1 with rfl | rfl | rfl <;> rcases e2 with rfl | rfl | rfl <;> omega
theorem rowOf_snoc {l : List Cr} {c : Cr} {f : Nat → List SV} (hf : f 0 = crSV c) : ∀ i, i < l.length + 1 → (if i < l.length then rowOf l i else f (i - l.length)) = rowOf (l ++ [c]) i := by
  intro i hi
  split
  · rename_i h
    simp [rowOf, List.getD_eq_getElem?_getD, List.getElem?_append_left h]
  · rename_i h
    have e : i = l.length := by omega
    subst e
    rw [Nat.sub_self, hf]
    simp [rowOf, List.getD_eq_getElem?_getD]
abbrev nOf : FuncId := 8
def pvSV (x : PV) : SV := .agg [.int .u8 x.W, .int .u8 x.H, .sl 3 x.L.length (trRow x.L) none]
def asPV : SV → Option (Prop × PV)
  | .agg [.int .u8 W, .int .u8 H, .sl 3 n f _] => some (∀ i, i < n → f i = trSV (crOf (f i)), ⟨W, H, crL n f⟩)
  | _ => none
def kOf : Kon
  | [v] => match asPV v with
    | some (a, x) => some (a ∧ x.ok, .agg [.int .i64 (ofP x).W, .int .i64 (ofP x).H, .sl 3 (ofP x).l.length (rowOf (ofP x).l) none])
    | none => none
  | _ => none
def FOf : Fam := ⟨PV, fun x => [pvSV x], fun x => x.ok, fun x => patSV (ofP x)⟩
def anyTo (x : PV) (i j : Nat) : Bool := ((x.acc i).take j).any (sameU (x.cr (x.L.getD i d0)))
def IOf (x : PV) : Nat → Option Inv
  | 4 => some { β := Nat, ok := fun i => i ≤ 30 ∧ i ≤ x.L.length, nl := [.cell 2 2 55 3], st := fun i => ⟨[⟨5, none, .int .i64 i⟩, ⟨4, none, .int .i64 x.n⟩, ⟨3, none, .own 2 0⟩, ⟨2, none, .own 1 0⟩, ⟨1, none, .own 0 0⟩], [.cells 24 [.int .u8 x.W, .int .u8 x.H, .sl 3 x.L.length (trRow x.L) none], .cells 29 [.int .i64 0, .int .i64 0, .con (Value.slice none 0 0)], .cells 29 [.int .i64 x.w, .int .i64 x.h, .osl 3], .row 55 3 (x.acc i).length (rowOf (x.acc i)) none]⟩, μ := fun i => x.L.length - i, sub := fun i => some fun
      | 14 => some { β := Nat, ok := fun j => i < 30 ∧ i < x.L.length ∧ ¬ x.b (x.L.getD i d0) < 0 ∧ j ≤ (x.acc i).length, st := fun j => ⟨[⟨10, none, .int .i64 j⟩, ⟨9, none, .bool (anyTo x i j)⟩, ⟨8, none, .own 4 0⟩, ⟨5, none, .int .i64 i⟩, ⟨4, none, .int .i64 x.n⟩, ⟨3, none, .own 2 0⟩, ⟨2, none, .own 1 0⟩, ⟨1, none, .own 0 0⟩], [.cells 24 [.int .u8 x.W, .int .u8 x.H, .sl 3 x.L.length (trRow x.L) none], .cells 29 [.int .i64 0, .int .i64 0, .con (Value.slice none 0 0)], .cells 29 [.int .i64 x.w, .int .i64 x.h, .osl 3], .row 55 3 (x.acc i).length (rowOf (x.acc i)) none, .cells 55 (crSV (x.cr (x.L.getD i d0)))]⟩, μ := fun j => (x.acc i).length - j }
      | _ => none }
  | _ => none
set_option maxHeartbeats 16000000 in
set_option maxRecDepth 100000 in
theorem pOf : PS nOf kOf := by
  refine conX [(nN25, kN25), (nE28, kE28)] (by simpa using ⟨pN25, pE28⟩) [(nOrdered, eOrdered)] (by simpa using xOrdered) (fun _ => false) FOf (fun x => IOf x) kOf ?_ ?_ Go.Proofs.Tryd.func8 (by kernel_rfl) (by kernel_rfl) (by kernel_rfl) ?_
  · intro args pre s h hp
    unfold kOf at h
    split at h
    · split at h
      · rename_i v _ a x hx
        cases h
        unfold asPV at hx
        split at hx
        · cases hx
          refine ⟨_, ⟨?_, trivial⟩, hp.2, rfl⟩
          simp only [pvSV, SV.le2, SV.le1, le0L, SV.le0, if_true, crL_length, capLe, and_true, true_and]
          intro i hi
          rw [hp.1 i hi]
          simp [trRow, crL, List.getD_eq_getElem?_getD, hi]
        · cases hx
      · cases h
    · cases h
  · intro i; show 1 ≤ _; decide
  · intro (x : PV) hx
    replace hx : x.ok := hx
    obtain ⟨hW, hH, hL⟩ := hx
    have hW' : 0 ≤ x.W ∧ x.W ≤ 255 := hW
    have hH' : 0 ≤ x.H ∧ x.H ≤ 255 := hH
    have ew : 1 + x.W.tmod 3 = x.w := by rw [Int.tmod_eq_emod_of_nonneg (by omega)]; rfl
    have eh : 1 + x.H.tmod 3 = x.h := by rw [Int.tmod_eq_emod_of_nonneg (by omega)]; rfl
    have bw := x.sh ⟨hW, hH, hL⟩
    have bn := x.n_pos ⟨hW, hH, hL⟩
    have en : 4 * x.w * x.h = x.n := rfl
    repeat (any_goals (first
      | (with_reducible refine And.intro (Ask.mk ?_) ?_
         first | exact trivial | exact fun _ => trivial)
      | with_reducible refine And.intro ?_ ?_
      | with_reducible refine Br.mk (fun h => ?_) (fun h => ?_)
      | with_reducible exact True.intro
      | (with_reducible refine Late.mk ?_
         exact rfl)
      | (fail_if_success with_reducible apply stopA
         fail_if_success with_reducible apply stopE
         fail_if_success with_reducible apply stopF
         fail_if_success with_reducible apply Exists.intro
         fail_if_success with_reducible intro _
         fail_if_success with_reducible apply stopK
         fail_if_success with_reducible apply stopL
         conv => whnf)))
    all_goals (try with_reducible refine Ask.mk ?_)
    all_goals (try first | exact trivial | exact fun _ => trivial)
    all_goals (try dsimp only)
    all_goals (try simp only [ew, eh, en])
    all_goals (try (simp only [inK]; omega))
    all_goals (try omega)
    refine ⟨(0 : Nat), by omega, ?_, ?_⟩
    · repeat (any_goals (first
        | (with_reducible refine And.intro (Ask.mk ?_) ?_
           first | exact trivial | exact fun _ => trivial)
        | with_reducible refine And.intro ?_ ?_
        | with_reducible refine Br.mk (fun h => ?_) (fun h => ?_)
        | with_reducible exact True.intro
        | (with_reducible refine Late.mk ?_
           exact rfl)
        | (fail_if_success with_reducible apply stopA
           fail_if_success with_reducible apply stopE
           fail_if_success with_reducible apply stopF
           fail_if_success with_reducible apply Exists.intro
           fail_if_success with_reducible intro _
           fail_if_success with_reducible apply stopK
           fail_if_success with_reducible apply stopL
           conv => whnf)))
      all_goals (try with_reducible refine Ask.mk ?_)
      all_goals (try first | exact trivial | exact fun _ => trivial)
      all_goals (try dsimp only)
      all_goals (try simp only [ew, eh, en])
      all_goals first | rfl | exact fun _ _ => rfl | exact fun _ _ => trivial | skip
      exact fun j hj => absurd hj (by omega)
    · intro i hi
      replace hi : i ≤ 30 ∧ i ≤ x.L.length := hi
      have hz : (↑i : Int).toNat = i := Int.toNat_natCast i
      have hacc := x.acc_len i
      have ht : inK .u8 (x.L.getD i d0).c ∧ inK .u8 (x.L.getD i d0).e ∧ inK .u8 (x.L.getD i d0).k := by
        by_cases hi' : i < x.L.length
        · exact hL _ (by simp [List.getD_eq_getElem?_getD, hi'])
        · rw [List.getD_eq_getElem?_getD, List.getElem?_eq_none (by omega)]
          simp [inK, d0]
      have tc : 0 ≤ (x.L.getD i d0).c ∧ (x.L.getD i d0).c ≤ 255 := ht.1
      have te : 0 ≤ (x.L.getD i d0).e ∧ (x.L.getD i d0).e ≤ 255 := ht.2.1
      have tk : 0 ≤ (x.L.getD i d0).k ∧ (x.L.getD i d0).k ≤ 255 := ht.2.2
      have ea : (([(x.L.getD i d0).c, (x.L.getD i d0).e, (x.L.getD i d0).k] : List Int).getD (Int.toNat 0) 0).tmod x.n = x.a (x.L.getD i d0) := Int.tmod_eq_emod_of_nonneg tc.1
      have ee : (([(x.L.getD i d0).c, (x.L.getD i d0).e, (x.L.getD i d0).k] : List Int).getD (Int.toNat 1) 0).tmod 3 = (x.L.getD i d0).e % 3 := Int.tmod_eq_emod_of_nonneg te.1
      have ek : (([(x.L.getD i d0).c, (x.L.getD i d0).e, (x.L.getD i d0).k] : List Int).getD (Int.toNat 2) 0).tmod 3 = (x.L.getD i d0).k % 3 := Int.tmod_eq_emod_of_nonneg tk.1
      have e0 : ([(x.L.getD i d0).c, (x.L.getD i d0).e, (x.L.getD i d0).k] : List Int).getD (Int.toNat 0) 0 = (x.L.getD i d0).c := rfl
      have eb : n25 x.w x.h (x.a (x.L.getD i d0)) ((x.L.getD i d0).e % 3) = x.b (x.L.getD i d0) := rfl
      have ba : 0 ≤ x.a (x.L.getD i d0) ∧ x.a (x.L.getD i d0) < x.n := ⟨Int.emod_nonneg _ (by omega), Int.emod_lt_of_pos _ (by omega)⟩
      have bb : -1 ≤ x.b (x.L.getD i d0) ∧ x.b (x.L.getD i d0) < x.n := n25_lt bw.1 bw.2.1 bw.2.2.1 bw.2.2.2 ba.1 (by omega)
      repeat (any_goals (first
        | (with_reducible refine And.intro (Ask.mk ?_) ?_
           first | exact trivial | exact fun _ => trivial)
        | with_reducible refine And.intro ?_ ?_
        | with_reducible refine Br.mk (fun h => ?_) (fun h => ?_)
        | with_reducible exact True.intro
        | (with_reducible refine Late.mk ?_
           exact rfl)
        | (fail_if_success with_reducible apply stopA
           fail_if_success with_reducible apply stopE
           fail_if_success with_reducible apply stopF
           fail_if_success with_reducible apply Exists.intro
           fail_if_success with_reducible intro _
           fail_if_success with_reducible apply stopK
           fail_if_success with_reducible apply stopL
           conv => whnf)))
      all_goals (try with_reducible refine Ask.mk ?_)
      all_goals (try first | exact trivial | exact fun _ => trivial)
      all_goals (try dsimp only)
      all_goals (try simp only [hz, ea, ee, ek, eb] at *)
      all_goals (try simp only [e0])
      all_goals (try simp only [Bool.and_eq_true, decide_eq_true_eq, decide_eq_false_iff_not, Bool.and_eq_false_iff] at *)
      all_goals (try omega)
      all_goals (try (simp only [inK]; omega))
      · rename_i h0
        have e : x.acc (i + 1) = x.acc i := by rw [x.acc_succ (by omega), PV.step, if_pos h]
        refine ⟨i + 1, ⟨by omega, by omega⟩, by omega, ?_⟩
        rw [e]
        repeat (any_goals (first
          | (with_reducible refine And.intro (Ask.mk ?_) ?_
             first | exact trivial | exact fun _ => trivial)
          | with_reducible refine And.intro ?_ ?_
          | with_reducible refine Br.mk (fun h => ?_) (fun h => ?_)
          | with_reducible exact True.intro
          | (with_reducible refine Late.mk ?_
             exact rfl)
          | (fail_if_success with_reducible apply stopA
             fail_if_success with_reducible apply stopE
             fail_if_success with_reducible apply stopF
             fail_if_success with_reducible apply Exists.intro
             fail_if_success with_reducible intro _
             fail_if_success with_reducible apply stopK
             fail_if_success with_reducible apply stopL
             conv => whnf)))
        all_goals (try with_reducible refine Ask.mk ?_)
        all_goals (try first | exact trivial | exact fun _ => trivial)
        all_goals (try dsimp only)
        all_goals first | rfl | exact fun _ _ => rfl | exact fun _ _ => trivial | skip
      · rename_i h1 h0
        have ecr : x.cr (x.L.getD i d0) = ⟨x.b (x.L.getD i d0), e28 x.w x.h (x.b (x.L.getD i d0)) (x.a (x.L.getD i d0)), 1 + (x.L.getD i d0).k % 3⟩ := by rw [PV.cr, if_pos h]
        have hlt : i < x.L.length := by omega
        have est := x.acc_succ hlt
        refine ⟨(0 : Nat), ⟨by omega, by omega, h0, by omega⟩, ?_, ?_⟩
        · repeat (any_goals (first
            | (with_reducible refine And.intro (Ask.mk ?_) ?_
               first | exact trivial | exact fun _ => trivial)
            | with_reducible refine And.intro ?_ ?_
            | with_reducible refine Br.mk (fun h => ?_) (fun h => ?_)
            | with_reducible exact True.intro
            | (with_reducible refine Late.mk ?_
               exact rfl)
            | (fail_if_success with_reducible apply stopA
               fail_if_success with_reducible apply stopE
               fail_if_success with_reducible apply stopF
               fail_if_success with_reducible apply Exists.intro
               fail_if_success with_reducible intro _
               fail_if_success with_reducible apply stopK
               fail_if_success with_reducible apply stopL
               conv => whnf)))
          all_goals (try with_reducible refine Ask.mk ?_)
          all_goals (try first | exact trivial | exact fun _ => trivial)
          all_goals (try dsimp only)
          all_goals (try simp only [ecr])
          all_goals first | rfl | exact fun _ _ => rfl | exact fun _ _ => trivial | skip
        · rintro j ⟨j1, j2, j3, j4⟩
          have hzj : (↑j : Int).toNat = j := Int.toNat_natCast j
          repeat (any_goals (first
            | (with_reducible refine And.intro (Ask.mk ?_) ?_
               first | exact trivial | exact fun _ => trivial)
            | with_reducible refine And.intro ?_ ?_
            | with_reducible refine Br.mk (fun h => ?_) (fun h => ?_)
            | with_reducible exact True.intro
            | (with_reducible refine Late.mk ?_
               exact rfl)
            | (fail_if_success with_reducible apply stopA
               fail_if_success with_reducible apply stopE
               fail_if_success with_reducible apply stopF
               fail_if_success with_reducible apply Exists.intro
               fail_if_success with_reducible intro _
               fail_if_success with_reducible apply stopK
               fail_if_success with_reducible apply stopL
               conv => whnf)))
          all_goals (try with_reducible refine Ask.mk ?_)
          all_goals (try first | exact trivial | exact fun _ => trivial)
          all_goals (try dsimp only)
          all_goals (try simp only [hzj, hz] at *)
          all_goals (try (intro _; first | (show j < (x.acc i).length; simp at h; omega) | (simp at h; omega)))
          all_goals (try (simp only [inK]; omega))
          · replace h : j < (x.acc i).length := by simpa using h
            have est2 : anyTo x i (j + 1) = (anyTo x i j || (decide (((x.acc i).getD j d0).c = (x.cr (x.L.getD i d0)).c) && decide (((x.acc i).getD j d0).e = (x.cr (x.L.getD i d0)).e))) := by
              unfold anyTo
              have : (x.acc i).take (j + 1) = (x.acc i).take j ++ [(x.acc i).getD j d0] := by
                rw [List.take_add_one]
                simp [List.getD_eq_getElem?_getD, h]
              rw [this, List.any_append]
              simp [sameU]
            refine ⟨j + 1, ⟨j1, j2, j3, by omega⟩, by omega, ?_⟩
            repeat (any_goals (first
              | (with_reducible refine And.intro (Ask.mk ?_) ?_
                 first | exact trivial | exact fun _ => trivial)
              | with_reducible refine And.intro ?_ ?_
              | with_reducible refine Br.mk (fun h => ?_) (fun h => ?_)
              | with_reducible exact True.intro
              | (with_reducible refine Late.mk ?_
                 exact rfl)
              | (fail_if_success with_reducible apply stopA
                 fail_if_success with_reducible apply stopE
                 fail_if_success with_reducible apply stopF
                 fail_if_success with_reducible apply Exists.intro
                 fail_if_success with_reducible intro _
                 fail_if_success with_reducible apply stopK
                 fail_if_success with_reducible apply stopL
                 conv => whnf)))
            all_goals (try with_reducible refine Ask.mk ?_)
            all_goals (try first | exact trivial | exact fun _ => trivial)
            all_goals (try dsimp only)
            all_goals (try rw [est2])
            all_goals first | rfl | exact fun _ _ => rfl | exact fun _ _ => trivial | skip
          · show (x.acc i).length + 1 ≤ 9223372036854775807 ∧ ((x.acc i).length + 1) * 16 ≤ 140737488355328
            omega
          · rename_i hj
            replace hj : ¬ j < (x.acc i).length := by simpa using hj
            have hany : (x.acc i).any (sameU (x.cr (x.L.getD i d0))) = false := by
              unfold anyTo at h
              rw [List.take_of_length_le (by omega)] at h
              simpa using h
            have e : x.acc (i + 1) = x.acc i ++ [x.cr (x.L.getD i d0)] := by rw [est, PV.step, if_neg h0, if_neg (by rw [hany]; simp)]
            refine ⟨i + 1, ⟨by omega, by omega⟩, by omega, ?_⟩
            rw [e]
            repeat (any_goals (first
              | (with_reducible refine And.intro (Ask.mk ?_) ?_
                 first | exact trivial | exact fun _ => trivial)
              | with_reducible refine And.intro ?_ ?_
              | with_reducible refine Br.mk (fun h => ?_) (fun h => ?_)
              | with_reducible exact True.intro
              | (with_reducible refine Late.mk ?_
                 exact rfl)
              | (fail_if_success with_reducible apply stopA
                 fail_if_success with_reducible apply stopE
                 fail_if_success with_reducible apply stopF
                 fail_if_success with_reducible apply Exists.intro
                 fail_if_success with_reducible intro _
                 fail_if_success with_reducible apply stopK
                 fail_if_success with_reducible apply stopL
                 conv => whnf)))
            all_goals (try with_reducible refine Ask.mk ?_)
            all_goals (try first | exact trivial | exact fun _ => trivial)
            all_goals (try dsimp only)
            all_goals first | rfl | exact fun _ _ => rfl | exact fun _ _ => trivial | skip
            · simp
            · exact rowOf_snoc (f := fun k => (List.map (fun (x : Nat × List SV) => x.snd) [(0, crSV (x.cr (x.L.getD i d0)))].reverse).getD k []) rfl
          · rename_i hj
            replace hj : ¬ j < (x.acc i).length := by simpa using hj
            have hany : (x.acc i).any (sameU (x.cr (x.L.getD i d0))) = true := by
              unfold anyTo at h
              rw [List.take_of_length_le (by omega)] at h
              simpa using h
            have e : x.acc (i + 1) = x.acc i := by rw [est, PV.step, if_neg h0, if_pos hany]
            refine ⟨i + 1, ⟨by omega, by omega⟩, by omega, ?_⟩
            rw [e]
            repeat (any_goals (first
              | (with_reducible refine And.intro (Ask.mk ?_) ?_
                 first | exact trivial | exact fun _ => trivial)
              | with_reducible refine And.intro ?_ ?_
              | with_reducible refine Br.mk (fun h => ?_) (fun h => ?_)
              | with_reducible exact True.intro
              | (with_reducible refine Late.mk ?_
                 exact rfl)
              | (fail_if_success with_reducible apply stopA
                 fail_if_success with_reducible apply stopE
                 fail_if_success with_reducible apply stopF
                 fail_if_success with_reducible apply Exists.intro
                 fail_if_success with_reducible intro _
                 fail_if_success with_reducible apply stopK
                 fail_if_success with_reducible apply stopL
                 conv => whnf)))
            all_goals (try with_reducible refine Ask.mk ?_)
            all_goals (try first | exact trivial | exact fun _ => trivial)
            all_goals (try dsimp only)
            all_goals first | rfl | exact fun _ _ => rfl | exact fun _ _ => trivial | skip
      · rename_i h1 h0
        have ecr : x.cr (x.L.getD i d0) = ⟨x.a (x.L.getD i d0), e28 x.w x.h (x.a (x.L.getD i d0)) (x.b (x.L.getD i d0)), 1 + (x.L.getD i d0).k % 3⟩ := by rw [PV.cr, if_neg h]
        have hlt : i < x.L.length := by omega
        have est := x.acc_succ hlt
        refine ⟨(0 : Nat), ⟨by omega, by omega, h0, by omega⟩, ?_, ?_⟩
        · repeat (any_goals (first
            | (with_reducible refine And.intro (Ask.mk ?_) ?_
               first | exact trivial | exact fun _ => trivial)
            | with_reducible refine And.intro ?_ ?_
            | with_reducible refine Br.mk (fun h => ?_) (fun h => ?_)
            | with_reducible exact True.intro
            | (with_reducible refine Late.mk ?_
               exact rfl)
            | (fail_if_success with_reducible apply stopA
               fail_if_success with_reducible apply stopE
               fail_if_success with_reducible apply stopF
               fail_if_success with_reducible apply Exists.intro
               fail_if_success with_reducible intro _
               fail_if_success with_reducible apply stopK
               fail_if_success with_reducible apply stopL
               conv => whnf)))
          all_goals (try with_reducible refine Ask.mk ?_)
          all_goals (try first | exact trivial | exact fun _ => trivial)
          all_goals (try dsimp only)
          all_goals (try simp only [ecr])
          all_goals first | rfl | exact fun _ _ => rfl | exact fun _ _ => trivial | skip
        · rintro j ⟨j1, j2, j3, j4⟩
          have hzj : (↑j : Int).toNat = j := Int.toNat_natCast j
          repeat (any_goals (first
            | (with_reducible refine And.intro (Ask.mk ?_) ?_
               first | exact trivial | exact fun _ => trivial)
            | with_reducible refine And.intro ?_ ?_
            | with_reducible refine Br.mk (fun h => ?_) (fun h => ?_)
            | with_reducible exact True.intro
            | (with_reducible refine Late.mk ?_
               exact rfl)
            | (fail_if_success with_reducible apply stopA
               fail_if_success with_reducible apply stopE
               fail_if_success with_reducible apply stopF
               fail_if_success with_reducible apply Exists.intro
               fail_if_success with_reducible intro _
               fail_if_success with_reducible apply stopK
               fail_if_success with_reducible apply stopL
               conv => whnf)))
          all_goals (try with_reducible refine Ask.mk ?_)
          all_goals (try first | exact trivial | exact fun _ => trivial)
          all_goals (try dsimp only)
          all_goals (try simp only [hzj, hz] at *)
          all_goals (try (intro _; first | (show j < (x.acc i).length; simp at h; omega) | (simp at h; omega)))
          all_goals (try (simp only [inK]; omega))
          · replace h : j < (x.acc i).length := by simpa using h
            have est2 : anyTo x i (j + 1) = (anyTo x i j || (decide (((x.acc i).getD j d0).c = (x.cr (x.L.getD i d0)).c) && decide (((x.acc i).getD j d0).e = (x.cr (x.L.getD i d0)).e))) := by
              unfold anyTo
              have : (x.acc i).take (j + 1) = (x.acc i).take j ++ [(x.acc i).getD j d0] := by
                rw [List.take_add_one]
                simp [List.getD_eq_getElem?_getD, h]
              rw [this, List.any_append]
              simp [sameU]
            refine ⟨j + 1, ⟨j1, j2, j3, by omega⟩, by omega, ?_⟩
            repeat (any_goals (first
              | (with_reducible refine And.intro (Ask.mk ?_) ?_
                 first | exact trivial | exact fun _ => trivial)
              | with_reducible refine And.intro ?_ ?_
              | with_reducible refine Br.mk (fun h => ?_) (fun h => ?_)
              | with_reducible exact True.intro
              | (with_reducible refine Late.mk ?_
                 exact rfl)
              | (fail_if_success with_reducible apply stopA
                 fail_if_success with_reducible apply stopE
                 fail_if_success with_reducible apply stopF
                 fail_if_success with_reducible apply Exists.intro
                 fail_if_success with_reducible intro _
                 fail_if_success with_reducible apply stopK
                 fail_if_success with_reducible apply stopL
                 conv => whnf)))
            all_goals (try with_reducible refine Ask.mk ?_)
            all_goals (try first | exact trivial | exact fun _ => trivial)
            all_goals (try dsimp only)
            all_goals (try rw [est2])
            all_goals first | rfl | exact fun _ _ => rfl | exact fun _ _ => trivial | skip
          · show (x.acc i).length + 1 ≤ 9223372036854775807 ∧ ((x.acc i).length + 1) * 16 ≤ 140737488355328
            omega
          · rename_i hj
            replace hj : ¬ j < (x.acc i).length := by simpa using hj
            have hany : (x.acc i).any (sameU (x.cr (x.L.getD i d0))) = false := by
              unfold anyTo at h
              rw [List.take_of_length_le (by omega)] at h
              simpa using h
            have e : x.acc (i + 1) = x.acc i ++ [x.cr (x.L.getD i d0)] := by rw [est, PV.step, if_neg h0, if_neg (by rw [hany]; simp)]
            refine ⟨i + 1, ⟨by omega, by omega⟩, by omega, ?_⟩
            rw [e]
            repeat (any_goals (first
              | (with_reducible refine And.intro (Ask.mk ?_) ?_
                 first | exact trivial | exact fun _ => trivial)
              | with_reducible refine And.intro ?_ ?_
              | with_reducible refine Br.mk (fun h => ?_) (fun h => ?_)
              | with_reducible exact True.intro
              | (with_reducible refine Late.mk ?_
                 exact rfl)
              | (fail_if_success with_reducible apply stopA
                 fail_if_success with_reducible apply stopE
                 fail_if_success with_reducible apply stopF
                 fail_if_success with_reducible apply Exists.intro
                 fail_if_success with_reducible intro _
                 fail_if_success with_reducible apply stopK
                 fail_if_success with_reducible apply stopL
                 conv => whnf)))
            all_goals (try with_reducible refine Ask.mk ?_)
            all_goals (try first | exact trivial | exact fun _ => trivial)
            all_goals (try dsimp only)
            all_goals first | rfl | exact fun _ _ => rfl | exact fun _ _ => trivial | skip
            · simp
            · exact rowOf_snoc (f := fun k => (List.map (fun (x : Nat × List SV) => x.snd) [(0, crSV (x.cr (x.L.getD i d0)))].reverse).getD k []) rfl
          · rename_i hj
            replace hj : ¬ j < (x.acc i).length := by simpa using hj
            have hany : (x.acc i).any (sameU (x.cr (x.L.getD i d0))) = true := by
              unfold anyTo at h
              rw [List.take_of_length_le (by omega)] at h
              simpa using h
            have e : x.acc (i + 1) = x.acc i := by rw [est, PV.step, if_neg h0, if_pos hany]
            refine ⟨i + 1, ⟨by omega, by omega⟩, by omega, ?_⟩
            rw [e]
            repeat (any_goals (first
              | (with_reducible refine And.intro (Ask.mk ?_) ?_
                 first | exact trivial | exact fun _ => trivial)
              | with_reducible refine And.intro ?_ ?_
              | with_reducible refine Br.mk (fun h => ?_) (fun h => ?_)
              | with_reducible exact True.intro
              | (with_reducible refine Late.mk ?_
                 exact rfl)
              | (fail_if_success with_reducible apply stopA
                 fail_if_success with_reducible apply stopE
                 fail_if_success with_reducible apply stopF
                 fail_if_success with_reducible apply Exists.intro
                 fail_if_success with_reducible intro _
                 fail_if_success with_reducible apply stopK
                 fail_if_success with_reducible apply stopL
                 conv => whnf)))
            all_goals (try with_reducible refine Ask.mk ?_)
            all_goals (try first | exact trivial | exact fun _ => trivial)
            all_goals (try dsimp only)
            all_goals first | rfl | exact fun _ _ => rfl | exact fun _ _ => trivial | skip
      · exact ⟨isCr_rowOf _, by omega, by rw [crL_rowOf]; exact x.units i⟩
      · rfl
      · rfl
      · have e : i = x.cnt := by unfold PV.cnt; omega
        subst e
        exact (sortCr_length _).symm
      · have e : i = x.cnt := by unfold PV.cnt; omega
        subst e
        rw [crL_rowOf]
        exact fun _ _ => rfl

end Go.Proofs.YthfkpmobmnfgcaaDoor.V

/-
  How what a row reads is told in the logic: integers, structs, slices, laid tables. Conditions: none.
-/
namespace Go.Proofs.YthfkpmobmnfgcaaDoor.V
open Go

section
variable {H : Type} {enc : TypeId × Value → H} {P : Program} {w : World} {base : Nat} {sp : Nat → Bool} {held : Bool} {fuel : Nat} {t : TypeId} {cs : List Value} {x : DataW H × List MemPlace}

theorem inK_of_wf {k : IntKind} {n : Int} (h : (Lit.int k n).wf = true) : inK k n := by
  simp only [Lit.wf, Bool.and_eq_true, decide_eq_true_eq] at h
  cases k <;> simp [IntKind.min, IntKind.max, IntKind.bits, IntKind.signed] at h <;> simp only [inK] <;> omega

theorem rd_int {k : IntKind} (ht : P.underlying t = some (.int k)) (h : DataW.trod enc P w base sp held fuel t cs = some x) : ∃ n, cs = [.int k n] ∧ inK k n := by
  obtain ⟨n, e, _, hw⟩ := DataW.trod_int ht h
  exact ⟨n, e, inK_of_wf hw⟩

theorem rd_bool (ht : P.underlying t = some .bool) (h : DataW.trod enc P w base sp held fuel t cs = some x) : ∃ b, cs = [.bool b] := by
  obtain ⟨b, e, _⟩ := DataW.trod_bool ht h
  exact ⟨b, e⟩

/-- A struct's fields, each read. -/
theorem rd_struct {fs : Array Field} (ht : P.underlying t = some (.struct fs)) (h : DataW.trod enc P w base sp held fuel t cs = some x) :
    cs.length = P.cellsOf t ∧ ∀ f ∈ fs.toList, ∃ m y, DataW.trod enc P w base sp held m f.type ((cs.drop f.offset).take (P.cellsOf f.type)) = some y := by
  obtain ⟨xs, m, rfl, _, hl, hxl, hx⟩ := DataW.trod_struct ht h
  refine ⟨hl, fun f hf => ?_⟩
  obtain ⟨i, hi, e⟩ := List.mem_iff_getElem.1 hf
  have hi' : i < fs.size := by simpa using hi
  have := hx i f (by rw [Array.getElem?_eq_getElem hi', ← e]; simp)
  refine ⟨m, xs[i]'(by omega), ?_⟩
  rw [this, List.getElem?_eq_getElem (by omega)]

theorem addr_add (b o i : Nat) : (⟨b, o, none⟩ : Addr).add i = ⟨b, o + i, none⟩ := by
  unfold Addr.add
  split
  · rename_i h; subst h; rfl
  · rfl

/-- A row that is read, by its elements' readings. -/
theorem rd_sl {α : Type} (d0 : α) (encS : α → List SV) (ok : α → Prop) {e : TypeId} {sz : Nat} (ht : P.underlying t = some (.slice e)) (hsz : P.cellsOf e = sz) (hpos : 0 < sz) {A : Nat → Prop} (hA : ∀ b, ¬ A b)
    (el : ∀ m R y, DataW.trod enc P w base sp held m e R = some y → ∃ q, ok q ∧ (encS q).length = sz ∧ (encS q).all SV.pure = true ∧ (∀ v ∈ R, v.oneCell' = true) ∧ ∀ (j : Nat) (s : SV) (v : Value), (encS q)[j]? = some s → R[j]? = some v → D w A Nobody s v)
    (h : DataW.trod enc P w base sp held fuel t cs = some x) :
    ∃ (l : List α) (v : Value), cs = [v] ∧ v.oneCell' = true ∧ D w A Nobody (.sl sz l.length (fun i => encS (l.getD i d0)) none) v ∧ ∀ q ∈ l, ok q := by
  rcases DataW.trod_slice ht h with ⟨rfl, _⟩ | ⟨a, len, cap, elems, rest, m, rfl, rfl, _, hb, hlc, hcm, hel, hrow, _, _⟩
  · exact ⟨[], _, rfl, rfl, .sl none 0 0 0 (fun _ _ => undef) (Nat.le_refl _) (Nat.zero_le _) (.inl rfl) (fun h => absurd h (by simp)) (fun i hi => absurd hi (by simp)) (fun i j s hi => absurd hi (by simp)), fun q hq => by cases hq⟩
  · have key : ∀ i, i < len → ∃ (R : List Value) (q : α), (R.length = sz ∧ ∀ j, j < sz → w.cell? ((a.add (i * sz)).add j) = R[j]?) ∧ ok q ∧ (encS q).length = sz ∧ (encS q).all SV.pure = true ∧ (∀ v ∈ R, v.oneCell' = true) ∧ ∀ (j : Nat) (s : SV) (v : Value), (encS q)[j]? = some s → R[j]? = some v → D w A Nobody s v := by
      intro i hi
      have := hrow i hi
      rw [hsz, List.getElem?_eq_getElem (by omega)] at this
      rw [Option.bind_eq_some_iff] at this
      obtain ⟨R, hR, hy⟩ := this
      obtain ⟨_, h2, h3⟩ := World.cells?_some hR
      obtain ⟨q, hq⟩ := el m R _ hy
      exact ⟨R, q, ⟨h2, h3⟩, hq⟩
    let G : Nat → List Value := fun i => if hi : i < len then (key i hi).choose else []
    let Q : Nat → α := fun i => if hi : i < len then (key i hi).choose_spec.choose else d0
    have hG : ∀ i, i < len → ((G i).length = sz ∧ ∀ j, j < sz → w.cell? ((a.add (i * sz)).add j) = (G i)[j]?) ∧ ok (Q i) ∧ (encS (Q i)).length = sz ∧ (encS (Q i)).all SV.pure = true ∧ (∀ v ∈ G i, v.oneCell' = true) ∧ ∀ (j : Nat) (s : SV) (v : Value), (encS (Q i))[j]? = some s → (G i)[j]? = some v → D w A Nobody s v := by
      intro i hi
      simp only [G, Q, hi, dif_pos]
      exact (key i hi).choose_spec.choose_spec
    have hQ : ∀ i, i < len → ((List.range len).map Q).getD i d0 = Q i := fun i hi => by simp [List.getD_eq_getElem?_getD, hi]
    have hlen : ((List.range len).map Q).length = len := by simp
    have spot : 0 < len → ∃ b o, a = ⟨b, o, none⟩ := by
      intro h0
      obtain ⟨⟨g1, g2⟩, _⟩ := hG 0 h0
      have := g2 0 hpos
      rw [List.getElem?_eq_getElem (by omega)] at this
      have hs := World.cell?_spot this
      obtain ⟨b, o, s⟩ := a
      have : s = none := by simpa [Addr.add] using hs
      exact ⟨b, o, by rw [this]⟩
    have hcell : ∀ b o, a = ⟨b, o, none⟩ → ∀ i j, i < len → j < sz → w.cell? ⟨b, o + i * sz + j, none⟩ = some ((G i).getD j undef) := by
      rintro b o rfl i j hi hj
      obtain ⟨⟨g1, g2⟩, _⟩ := hG i hi
      have := g2 j hj
      rw [List.getElem?_eq_getElem (by omega)] at this
      rw [addr_add, addr_add] at this
      rw [List.getD_eq_getElem?_getD, List.getElem?_eq_getElem (by omega), this]
      rfl
    have hDl : ∀ (b o : Nat), (0 < len → a = ⟨b, o, none⟩) → D w A Nobody (.sl sz ((List.range len).map Q).length (fun i => encS (((List.range len).map Q).getD i d0)) none) (.slice (some a) len cap) := by
      intro b o hao
      rw [hlen]
      refine .sl (some a) b o cap (fun i j => (G i).getD j undef) hlc hcm (.inl rfl) (fun h0 => ?_) (fun i hi => ?_) (fun i j s hi hs => ?_)
      · have ha := hao h0
        refine ⟨by rw [ha], hA b, ?_, fun i j hi hj => ⟨hcell b o ha i j hi hj, ?_⟩⟩
        · have := hcell b o ha 0 0 h0 hpos
          unfold World.cell? at this
          split at this
          · rename_i c T fz hc; exact (Array.getElem?_eq_some_iff.1 hc).1
          · cases this
        · obtain ⟨⟨g1, _⟩, _, _, _, g5, _⟩ := hG i hi
          show ((G i).getD j undef).oneCell' = true
          rw [List.getD_eq_getElem?_getD, List.getElem?_eq_getElem (by omega)]
          exact g5 _ (List.getElem_mem _)
      · rw [hQ i hi]
        exact ⟨(hG i hi).2.2.1, (hG i hi).2.2.2.1⟩
      · rw [hQ i hi] at hs
        obtain ⟨⟨g1, _⟩, _, g3, _, _, g6⟩ := hG i hi
        have hj : j < sz := by rw [← g3]; exact (List.getElem?_eq_some_iff.1 hs).1
        refine g6 j s _ hs ?_
        simp only [List.getD_eq_getElem?_getD]
        rw [List.getElem?_eq_getElem (by omega)]
        rfl
    refine ⟨(List.range len).map Q, .slice (some a) len cap, rfl, rfl, ?_, fun q hq => ?_⟩
    · rcases Nat.eq_zero_or_pos len with h0 | h0
      · exact hDl 0 0 (fun h => absurd h (by omega))
      · obtain ⟨b, o, e⟩ := spot h0
        exact hDl b o (fun _ => e)
    · obtain ⟨i, hi, rfl⟩ := List.mem_map.1 hq
      exact (hG i (List.mem_range.1 hi)).2.1

/-! ### Laid tables. -/
mutual
def flatD : DataW H → List Value
  | .lit (.int k n) => [.int k n]
  | .lit (.bool b) => [.bool b]
  | .agg ps => flatA ps
  | _ => []
def flatA : List (DataW H) → List Value
  | [] => []
  | d :: r => flatD d ++ flatA r
end
mutual
def plainD : DataW H → Bool
  | .lit (.int _ _) => true
  | .lit (.bool _) => true
  | .agg ps => plainA ps
  | _ => false
def plainA : List (DataW H) → Bool
  | [] => true
  | d :: r => plainD d && plainA r
end
theorem flatA_eq : ∀ l : List (DataW H), flatA l = (l.map flatD).flatten
  | [] => rfl
  | d :: r => by simp [flatA, flatA_eq r]
theorem plainA_mem : ∀ {l : List (DataW H)}, plainA l = true → ∀ d ∈ l, plainD d = true
  | [], _, d, h => by cases h
  | x :: r, h, d, hd => by
    simp only [plainA, Bool.and_eq_true] at h
    rcases List.mem_cons.1 hd with rfl | hd
    · exact h.1
    · exact plainA_mem h.2 d hd

theorem flat_pieces : ∀ (ss : List Nat) (cs : List Value) (ys : List (List Value)), ys.length = ss.length → cs.length = ss.sum → (∀ (i s : Nat) (y : List Value), ss[i]? = some s → ys[i]? = some y → (cs.drop (ss.take i).sum).take s = y) → cs = ys.flatten := by
  intro ss
  induction ss with
  | nil =>
    intro cs ys hy hc _
    obtain rfl : ys = [] := List.length_eq_zero_iff.1 hy
    obtain rfl : cs = [] := List.length_eq_zero_iff.1 (by simpa using hc)
    rfl
  | cons s ss ih =>
    intro cs ys hy hc hp
    match ys, hy with
    | y :: ys, hy =>
      have h0 := hp 0 s y rfl rfl
      simp at h0
      have := ih (cs.drop s) ys (by simpa using hy) (by simp at hc ⊢; omega) (fun i s' y' hs hy' => by
        have := hp (i + 1) s' y' (by simpa using hs) (by simpa using hy')
        simp only [List.take_succ_cons, List.sum_cons] at this
        rw [List.drop_drop]
        exact this)
      rw [List.flatten_cons, ← this, ← h0, List.take_append_drop]

theorem sum_map_take {ss : List Nat} {i : Nat} : (ss.take i).sum = ((ss.take i)).sum := rfl

theorem isVar_lt {P : Program} {t : TypeId} (h : isVar P t = true) : t < P.types.size := by
  simp only [isVar, Bool.and_eq_true, decide_eq_true_eq] at h; exact h.1
theorem rowFine_of (hl : laidOutB P = true) (h : isVar P t = true) : rowFine P t = true := by
  simp only [laidOutB, Bool.and_eq_true] at hl
  exact List.all_eq_true.1 hl.1.1 t (List.mem_range.2 (isVar_lt h))

/-- A type of integers and bools, structs and arrays of them. -/
def flatT (P : Program) : Nat → TypeId → Bool
  | 0, _ => false
  | n + 1, t => match P.underlying t with
    | some (.int _) | some .bool => true
    | some (.struct fs) => fs.toList.all fun f => flatT P n f.type
    | some (.array _ e) => flatT P n e
    | _ => false

/-- Cells that read as plain data are that data. -/
theorem trod_flat (hl : laidOutB P = true) : ∀ (fuel : Nat) (t : TypeId) (cs : List Value) (x : DataW H × List MemPlace) (n : Nat), flatT P n t = true → isVar P t = true → DataW.trod enc P w base sp held fuel t cs = some x → plainD x.1 = true → cs = flatD x.1 := by
  intro fuel
  induction fuel with
  | zero => intro t cs x n _ _ h; simp [DataW.trod] at h
  | succ m ih =>
    intro t cs x n hf hv h hp
    match n, hf with
    | n' + 1, hf =>
    unfold flatT at hf
    have hr := rowFine_of hl hv
    unfold rowFine at hr
    simp only [hv, Bool.not_true, Bool.false_or] at hr
    cases hu : P.underlying t with
    | none => simp [DataW.trod, hu] at h
    | some T =>
      cases T with
      | int k =>
        obtain ⟨n, rfl, rfl, _⟩ := DataW.trod_int hu h
        rfl
      | bool =>
        obtain ⟨b, rfl, rfl⟩ := DataW.trod_bool hu h
        rfl
      | struct fs =>
        rw [hu] at hr
        simp only [Bool.and_eq_true, List.all_eq_true, beq_iff_eq] at hr
        obtain ⟨⟨hfv, hct⟩, hoff⟩ := hr
        obtain ⟨xs, m', em, rfl, hcl, hxl, hx⟩ := DataW.trod_struct hu h
        obtain rfl : m = m' := by omega
        simp only [plainD] at hp
        have hpl := plainA_mem hp
        simp only [flatD, flatA_eq, List.map_map]
        refine flat_pieces (fs.toList.map fun f => P.cellsOf f.type) cs _ (by simp [hxl]) (by rw [hcl, hct]) (fun i s y hs hy => ?_)
        rw [List.getElem?_map, Option.map_eq_some_iff] at hs hy
        obtain ⟨f, hf', rfl⟩ := hs
        obtain ⟨z, hz, rfl⟩ := hy
        have hi : i < fs.toList.length := (List.getElem?_eq_some_iff.1 hf').1
        have ho := hoff i (List.mem_range.2 hi)
        rw [hf'] at ho
        simp only [beq_iff_eq] at ho
        have := hx i f (by simpa using hf')
        rw [hz] at this
        rw [← List.map_take] at *
        rw [← ho]
        rw [hu] at hf
        exact ih f.type _ z n' (List.all_eq_true.1 hf f (List.mem_of_getElem? hf')) (hfv f (List.mem_of_getElem? hf')) this (hpl z.1 (List.mem_map_of_mem (List.mem_of_getElem? hz)))
      | array n e =>
        rw [hu] at hr
        simp only [Bool.and_eq_true, beq_iff_eq] at hr
        obtain ⟨hev, hct⟩ := hr
        obtain ⟨xs, m', em, rfl, hcl, hxl, hx⟩ := DataW.trod_array hu h
        obtain rfl : m = m' := by omega
        simp only [plainD] at hp
        have hpl := plainA_mem hp
        simp only [flatD, flatA_eq, List.map_map]
        refine flat_pieces (List.replicate n (P.cellsOf e)) cs _ (by simp [hxl]) (by rw [hcl, hct]; simp) (fun i s y hs hy => ?_)
        rw [List.getElem?_map, Option.map_eq_some_iff] at hy
        obtain ⟨z, hz, rfl⟩ := hy
        have hi : i < n := by have := (List.getElem?_eq_some_iff.1 hs).1; simpa using this
        have hs' : s = P.cellsOf e := by simp [List.getElem?_replicate, hi] at hs; exact hs.symm
        subst hs'
        have := hx i hi
        rw [hz] at this
        rw [List.take_replicate, List.sum_replicate_nat, Nat.min_eq_left (Nat.le_of_lt hi)]
        rw [hu] at hf
        exact ih e _ z n' hf hev this (hpl z.1 (List.mem_map_of_mem (List.mem_of_getElem? hz)))
      | _ =>
        simp [hu] at hf
end

def svIs : SV → Value → Bool
  | .int k n, .int k' m => k == k' && n == m
  | .bool b, .bool c => b == c
  | .clo f [], .func (.func g) a b => f == g && a.isEmpty && b.isEmpty
  | _, _ => false
theorem svIs_D {w : World} {H : Nat → Prop} {μ : Mu} {s : SV} {v : Value} (h : svIs s v = true) : D w H μ s v ∧ v.oneCell' = true ∧ s.pure = true := by
  unfold svIs at h
  split at h
  · simp only [Bool.and_eq_true, beq_iff_eq] at h
    obtain ⟨rfl, rfl⟩ := h
    exact ⟨.int, rfl, rfl⟩
  · simp only [beq_iff_eq] at h
    subst h
    exact ⟨.bool, rfl, rfl⟩
  · rename_i f g a b
    simp only [Bool.and_eq_true, beq_iff_eq, Array.isEmpty_iff] at h
    obtain ⟨⟨rfl, rfl⟩, rfl⟩ := h
    exact ⟨.clo [] rfl (fun i s v h => by simp at h), rfl, rfl⟩
  · cases h

def rowChk (sz n : Nat) (f : Nat → List SV) (cs : List Value) : Bool :=
  cs.length == n * sz && (List.range n).all fun i => (f i).length == sz && ((f i).zip ((cs.drop (i * sz)).take sz)).all fun x => svIs x.1 x.2

/-- A laid table, told in the logic. -/
theorem rel_of_cells {w : World} {A : Nat → Prop} {μ : Mu} {g sz n : Nat} {f : Nat → List SV} {cs : List Value} (hpos : 0 < n) (hA : ¬ A g) (hg : g < w.heap.size) (hc : ∀ k, w.cell? ⟨g, k, none⟩ = cs[k]?) (hk : rowChk sz n f cs = true) : (SV.rel sz n f 0 0).pure = true ∧ D w A μ (.rel sz n f 0 0) (.pointer (some ⟨g, 0, none⟩)) := by
  simp only [rowChk, Bool.and_eq_true, beq_iff_eq, List.all_eq_true] at hk
  obtain ⟨hcl, hk⟩ := hk
  have hin : ∀ i j, i < n → j < sz → i * sz + j < cs.length := fun i j hi hj => by
    have := Nat.mul_le_mul_right sz (show i + 1 ≤ n from hi); rw [Nat.add_mul, Nat.one_mul] at this; omega
  have hone : ∀ i j, i < n → j < sz → ∀ s, (f i)[j]? = some s → svIs s (cs.getD (i * sz + j) undef) = true := by
    intro i j hi hj s hs
    obtain ⟨h1, h2⟩ := hk i (List.mem_range.2 hi)
    refine h2 (s, cs.getD (i * sz + j) undef) (List.mem_iff_getElem?.2 ⟨j, ?_⟩)
    rw [List.getElem?_zip_eq_some]
    refine ⟨hs, ?_⟩
    rw [List.getElem?_take, if_pos hj, List.getElem?_drop, List.getD_eq_getElem?_getD, List.getElem?_eq_getElem (hin i j hi hj)]
    rfl
  have hlen : ∀ i, i < n → (f i).length = sz := fun i hi => (hk i (List.mem_range.2 hi)).1
  refine ⟨rfl, ?_⟩
  have := D.rel (w := w) (H := A) (μ := μ) (sz := sz) (n := n) (i := 0) (off := 0) (f := f) g 0 (fun i j => cs.getD (i * sz + j) undef) hpos hA ⟨hg, fun i j hi hj => ⟨?_, ?_⟩⟩ (fun i hi => ⟨hlen i hi, ?_⟩) (fun i j s hi hs => ?_)
  · simpa using this
  · show w.cell? ⟨g, 0 + i * sz + j, none⟩ = some (cs.getD (i * sz + j) undef)
    rw [Nat.zero_add, hc, List.getD_eq_getElem?_getD, List.getElem?_eq_getElem (hin i j hi hj)]
    rfl
  · have hjl : j < (f i).length := by rw [hlen i hi]; exact hj
    exact (svIs_D (w := w) (H := A) (μ := μ) (hone i j hi hj _ (List.getElem?_eq_getElem hjl))).2.1
  · rw [List.all_eq_true]
    intro s hs
    obtain ⟨j, hj, e⟩ := List.mem_iff_getElem.1 hs
    have hjs : j < sz := by rw [← hlen i hi]; exact hj
    exact (svIs_D (w := w) (H := A) (μ := μ) (hone i j hi hjs s (by rw [List.getElem?_eq_getElem hj, e]))).2.2
  · have hjs : j < sz := by rw [← hlen i hi]; exact (List.getElem?_eq_some_iff.1 hs).1
    exact (svIs_D (hone i j hi hjs s hs)).1

end Go.Proofs.YthfkpmobmnfgcaaDoor.V

/-
  What the listed variables give; a law's call out of its code. Conditions: none.
-/
namespace Go.Proofs.YthfkpmobmnfgcaaDoor.V
open Go Go.RowKit

theorem size_of_var {P : Program} {w : World} {n : String} {g : Nat} {cs : Array Value} (hg : P.globalNamed n = some g) (h : w.var? P n = some cs) : g < w.heap.size := by
  simp only [World.var?, hg, Option.bind_some] at h
  split at h
  · rename_i hc; exact (Array.getElem?_eq_some_iff.1 hc).1
  · cases h

theorem laidOut : laidOutB Go.Proofs.Tryd.prog = true := by kernel_rfl

/-- A plain table that is listed. -/
theorem tab_of_laid {W : World} {A : Nat → Prop} (hA : ∀ b, ¬ A b) {n : String} {g g0 : Nat} {t : TypeId} {cs : Array Value} {fuel : Nat} {d : DataW Unit} {p : List MemPlace} {sz m : Nat} {f : Nat → List SV}
    (hg : Go.Proofs.Tryd.prog.globalNamed n = some g) (ht : (Go.Proofs.Tryd.prog.globals[g]?).map (·.type) = some t) (hv : W.var? Go.Proofs.Tryd.prog n = some cs) (hd : DataW.trod (fun _ => ()) Go.Proofs.Tryd.prog W 0 (fun _ => true) false fuel t cs.toList = some (d, p))
    (eg : Go.Proofs.Tryd.prog.globalNamed n = some g0) (hf : (Go.Proofs.Tryd.prog.globals[g0]?).map (fun gl => flatT Go.Proofs.Tryd.prog 10 gl.type && isVar Go.Proofs.Tryd.prog gl.type) = some true) (hp : plainD d = true) (hm : 0 < m) (hk : rowChk sz m f (flatD d) = true) :
    (SV.rel sz m f 0 0).pure = true ∧ D W A Nobody (.rel sz m f 0 0) (.pointer (some ⟨g0, 0, none⟩)) := by
  obtain rfl := Option.some.inj (eg.symm.trans hg)
  obtain ⟨gl, hgl, rfl⟩ := Option.map_eq_some_iff.1 ht
  rw [hgl] at hf
  simp only [Option.map_some, Option.some.injEq, Bool.and_eq_true] at hf
  have e := trod_flat laidOut fuel gl.type cs.toList (d, p) 10 hf.1 hf.2 hd hp
  refine rel_of_cells (cs := cs.toList) hm (hA g0) (size_of_var hg hv) (fun k => ?_) (by rw [e]; exact hk)
  rw [World.var?_cell hg hv k]; simp

theorem fn_table {W : World} {base : Nat} {sp : Nat → Bool} {fuel : Nat} {t e : TypeId} {n : Nat} {qs rs : Array TypeId} {va : Bool} {cs : List Value} {p : List MemPlace} {P : Program} (names : List (List UInt8)) (fs : List FuncId) (hu : P.underlying t = some (.array n e)) (he : P.underlying e = some (.func qs rs va)) (hce : P.cellsOf e = 1) (hct : P.cellsOf t = n)
    (hd : DataW.trod (funcToken P) P W base sp true fuel t cs = some (.agg (names.map .held), p)) (hl : names.length = n) (hfs : fs.length = n)
    (hone : ((names.zip fs).all fun x => !x.1.isEmpty && ((List.range P.funcs.size).filter fun f => (P.funcs[f]?).any (·.name.toUTF8.data.toList == x.1)) == [x.2]) = true) : cs = fs.map fun f => .func (.func f) #[] #[] := by
  obtain ⟨xs, m, rfl, hx, hcl, hxl, hel⟩ := DataW.trod_array hu hd
  simp only [Prod.mk.injEq, DataW.agg.injEq] at hx
  have hcn : cs.length = n := by rw [hcl, hct]
  apply List.ext_getElem (by simp [hcn, hfs])
  intro i h1 h2
  have hi : i < n := by omega
  have h3 := hel i hi
  rw [hce, Nat.mul_one, List.getElem?_eq_getElem (by omega)] at h3
  have e1 : (cs.drop i).take 1 = [cs[i]] := by
    rw [List.drop_eq_getElem_cons h1]; rfl
  rw [e1] at h3
  have hn : (xs[i]'(by omega)).1 = .held (names[i]'(by omega)) := by
    have : (xs.map (·.1))[i]'(by simp; omega) = (names.map DataW.held)[i]'(by simp; omega) := by simp only [← hx.1]
    simpa using this
  have hz := List.all_eq_true.1 hone (names[i]'(by omega), fs[i]'(by omega)) (List.mem_iff_getElem?.2 ⟨i, by rw [List.getElem?_zip_eq_some]; exact ⟨List.getElem?_eq_getElem _, List.getElem?_eq_getElem _⟩⟩)
  simp only [Bool.and_eq_true, Bool.not_eq_true', beq_iff_eq] at hz
  rw [List.getElem_map]
  match hnm : (names[i]'(by omega)), hz with
  | [], hz => simp at hz
  | b :: r, hz =>
    have h4 : DataW.trod (funcToken P) P W base sp true m e [cs[i]] = some (.held (b :: r), (xs[i]'(by omega)).2) := by
      rw [h3]
      congr 1
      rw [hnm] at hn
      exact Prod.ext hn rfl
    exact func_of_trod he hz.2 h4

open Classical in
/-- A law's own contract. -/
noncomputable def topK (F : Fam) : List SV → Option (Prop × SV) := fun zs => if ∃ i, F.pre i ∧ zs = F.args i then some (True, .bool true) else none

theorem top {f : FuncId} {fn : Func} (l : List (FuncId × Kon)) (hl : ∀ x ∈ l, PS x.1 x.2) (x : List (FuncId × EffK)) (hx : ∀ y ∈ x, ES y.1 y.2) (fz : Nat → Bool) (F : Fam) (I : F.ι → Nat → Option Inv) (hres : ∀ i, F.res i = .bool true) (hle : ∀ i, le2L (F.args i) (F.args i)) (hlen : ∀ i, (F.args i).length ≤ fn.ntmps)
    (hf : Go.Proofs.Tryd.prog.funcs[f]? = some fn) (hb : fn.body.isSome = true) (hn : (fn.name == "runtime.NumGoroutine") = false) (hco : codeOK (fn.body.getD .skip) = true)
    (H : ∀ i, F.pre i → wpC (EX l x fz none) fn.ntmps (I i) (fn.body.getD .skip) ⟨retP (EX l x fz none) fn (F.res i), fun _ _ => False, retP (EX l x fz none) fn (F.res i)⟩ ⟨initE 0 (F.args i), []⟩) (i : F.ι) (hp : F.pre i)
    {w : World} {vals : List Value} (hg : ∀ g t, glob0 g = some t → t.pure = true ∧ D w (fun _ => False) Nobody t (.pointer (some ⟨g, 0, none⟩))) (hD : DL w (fun _ => False) Nobody (F.args i) vals) :
    Calls Go.Proofs.Tryd.prog f vals.toArray w fun e w' => e = .returned (.bool true) ∧ Fr w.heap.size (fun _ => False) w w' := by
  have := conX l hl x hx fz F I (topK F) (fun zs p s hk hp => by
    unfold topK at hk
    split at hk
    · rename_i hex
      obtain ⟨i, hi, rfl⟩ := hex
      cases hk
      exact ⟨i, hle i, hi, (hres i).symm⟩
    · cases hk) hlen hf hb hn hco H
  refine (this.2 (fun _ => False) w (F.args i) vals True (.bool true) (fun b h => h.elim) hg hD ?_ trivial).mono ?_
  · unfold topK
    rw [if_pos ⟨i, hp, rfl⟩]
  · rintro e w' ⟨v, rfl, hv, hfr⟩
    cases hv
    exact ⟨rfl, hfr⟩

theorem below_of_fr {w w' : World} (h : Fr w.heap.size (fun _ => False) w w') : Below w.heap.size w w' := ⟨h.os, h.tape, h.output, h.size, fun k hk => h.block k hk (fun h => h)⟩

theorem trodAll_below {H : Type} {enc : TypeId × Value → H} {P : Program} (hl : laidOutB P = true) {W W' : World} (hb : Below W.heap.size W W') : ∀ {ts : List TypeId} {vs : List Value} {ds : List (DataW H)} {ps : List MemPlace},
    (ts.all fun t => P.readableRec t && decide (t < P.types.size)) = true → DataW.TrodAll enc P W 0 (fun _ => true) true ts vs ds ps → (∀ x ∈ ps, x.block < W.heap.size) → DataW.TrodAll enc P W' 0 (fun b => decide (b < W.heap.size)) true ts vs ds ps
  | [], vs, ds, ps, _, h, _ => by
    obtain ⟨rfl, rfl, rfl⟩ := Go.ChangeShapes.trodAll_nil h
    rfl
  | t :: ts, vs, ds, ps, hr, h, hlt => by
    obtain ⟨v, vs', d, ds', p, q, rfl, rfl, rfl, h1, h2⟩ := Go.ChangeShapes.trodAll_cons h
    simp only [List.all_cons, Bool.and_eq_true, decide_eq_true_eq] at hr
    exact ⟨p, q, Below.trod hl hr.1.1 hr.1.2 h1 hb (fun x hx => hlt x (by simp [hx])), trodAll_below hl hb (by simpa using hr.2) h2 (fun x hx => hlt x (by simp [hx])), rfl⟩

/-- The end of a law's row: it returned true, and turned nothing that was there. -/
theorem law_post {H : Type} {enc : TypeId × Value → H} {P : Program} (hl : laidOutB P = true) {fn : Func} {s : ChangeSpec} {tb : TypeId} {W W' : World} {args : Array Value} {ds gs : List (DataW H)} {before : List MemPlace} (hv : s.vars = []) (hrt : fn.resultTypes = #[tb]) (htb : P.underlying tb = some .bool)
    (hsp : s.fn H (ds ++ gs) = { results := [.lit (.bool true)], args := ds }) (hr : (fn.params.toList.all fun t => P.readableRec t && decide (t < P.types.size)) = true) (hW : DataW.Whole enc P fn.params.toList s.vars false W args.toList ds gs before) (hb : Below W.heap.size W W') :
    s.post enc P fn false true false false W args (.bool true) W' := by
  have hW' := hW
  obtain ⟨p, q, hA, hV, rfl, hfz, hnd⟩ := hW'
  rw [hv] at hV
  obtain ⟨rfl, rfl⟩ := Go.ChangeShapes.trodVars_none hV
  refine ⟨ds, [], p ++ [], [], p, [], hW, ?_, ?_, ?_, hb.frame _, fun h => by cases h⟩
  · rw [hsp, hrt]
    exact Go.ChangeShapes.trodAll_mk1 (shut_bool htb true)
  · rw [hsp]
    refine trodAll_below hl hb hr hA (fun x hx => ?_)
    have := hW.lt x (by simp [hx])
    simpa using this
  · rw [hsp, hv]
    rfl

end Go.Proofs.YthfkpmobmnfgcaaDoor.V

/-
  The listed variables of this seat; how the laws' arguments read. Conditions: none.
-/
namespace Go.Proofs.YthfkpmobmnfgcaaDoor.V
open Go Go.RowKit Go.ChangeShapes Go.WideShapes Go.ChangeAt

abbrev laidL : List (String × DataW Unit) := [("crimp/cells.quarters", Rows.laid_crimp_cells_quarters), ("crimp/forms.turned", Rows.laid_crimp_forms_turned), ("crimp/forms.inner", Rows.laid_crimp_forms_inner)]
def turnedNames : List (List UInt8) := [[99, 114, 105, 109, 112, 47, 102, 111, 114, 109, 115, 46, 116, 117, 114, 110, 101, 100, 36, 49], [99, 114, 105, 109, 112, 47, 102, 111, 114, 109, 115, 46, 116, 117, 114, 110, 101, 100, 36, 50], [99, 114, 105, 109, 112, 47, 102, 111, 114, 109, 115, 46, 116, 117, 114, 110, 101, 100, 36, 51], [99, 114, 105, 109, 112, 47, 102, 111, 114, 109, 115, 46, 116, 117, 114, 110, 101, 100, 36, 52], [99, 114, 105, 109, 112, 47, 102, 111, 114, 109, 115, 46, 116, 117, 114, 110, 101, 100, 36, 53], [99, 114, 105, 109, 112, 47, 102, 111, 114, 109, 115, 46, 116, 117, 114, 110, 101, 100, 36, 54], [99, 114, 105, 109, 112, 47, 102, 111, 114, 109, 115, 46, 116, 117, 114, 110, 101, 100, 36, 55], [99, 114, 105, 109, 112, 47, 102, 111, 114, 109, 115, 46, 116, 117, 114, 110, 101, 100, 36, 56]]
def turnedFns : List FuncId := [95, 96, 97, 98, 99, 100, 101, 102]

set_option maxRecDepth 100000 in
theorem glob_of_laid {W : World} (h : laidMetH Go.Proofs.Tryd.prog laidL W) : ∀ g t, glob0 g = some t → t.pure = true ∧ D W (fun _ => False) Nobody t (.pointer (some ⟨g, 0, none⟩)) := by
  have hA : ∀ b, ¬ (fun _ : Nat => False) b := fun _ h => h
  obtain ⟨g2, t2, cs2, f2, p2, hg2, ht2, hv2, hd2⟩ := h.funcs (n := "crimp/forms.turned") (d := .agg [.iface "func" (.lit (.string [99, 114, 105, 109, 112, 47, 102, 111, 114, 109, 115, 46, 116, 117, 114, 110, 101, 100, 36, 49])), .iface "func" (.lit (.string [99, 114, 105, 109, 112, 47, 102, 111, 114, 109, 115, 46, 116, 117, 114, 110, 101, 100, 36, 50])), .iface "func" (.lit (.string [99, 114, 105, 109, 112, 47, 102, 111, 114, 109, 115, 46, 116, 117, 114, 110, 101, 100, 36, 51])), .iface "func" (.lit (.string [99, 114, 105, 109, 112, 47, 102, 111, 114, 109, 115, 46, 116, 117, 114, 110, 101, 100, 36, 52])), .iface "func" (.lit (.string [99, 114, 105, 109, 112, 47, 102, 111, 114, 109, 115, 46, 116, 117, 114, 110, 101, 100, 36, 53])), .iface "func" (.lit (.string [99, 114, 105, 109, 112, 47, 102, 111, 114, 109, 115, 46, 116, 117, 114, 110, 101, 100, 36, 54])), .iface "func" (.lit (.string [99, 114, 105, 109, 112, 47, 102, 111, 114, 109, 115, 46, 116, 117, 114, 110, 101, 100, 36, 55])), .iface "func" (.lit (.string [99, 114, 105, 109, 112, 47, 102, 111, 114, 109, 115, 46, 116, 117, 114, 110, 101, 100, 36, 56]))]) (by unfold laidL; exact List.mem_cons_of_mem _ (List.mem_cons_self ..))
  have h' : laidMet Go.Proofs.Tryd.prog [("crimp/cells.quarters", Rows.laid_crimp_cells_quarters), ("crimp/forms.inner", Rows.laid_crimp_forms_inner)] W ∧ handlesMet Go.Proofs.Tryd.prog [("crimp/forms.turned", Rows.laid_crimp_forms_turned)] W := h
  obtain ⟨⟨ps, ⟨g0, t0, cs0, f0, p0, q0, hg0, ht0, hv0, hd0, ⟨g1, t1, cs1, f1, p1, q1, hg1, ht1, hv1, hd1, _, _⟩, _⟩, _, _⟩, _⟩ := h'
  have r0 := tab_of_laid (A := fun _ => False) hA (sz := 17) (m := 4) (f := quartersRow) hg0 ht0 hv0 hd0 (g0 := 2) (by kernel_rfl) (by kernel_rfl) (by kernel_rfl) (by omega) (by kernel_rfl)
  have r1 := tab_of_laid (A := fun _ => False) hA (sz := 2) (m := 4) (f := innerRow) hg1 ht1 hv1 hd1 (g0 := 0) (by kernel_rfl) (by kernel_rfl) (by kernel_rfl) (by omega) (by kernel_rfl)
  have r2 : (SV.rel 1 8 turnedRow 0 0).pure = true ∧ D W (fun _ => False) Nobody (.rel 1 8 turnedRow 0 0) (.pointer (some ⟨1, 0, none⟩)) := by
    obtain rfl := Option.some.inj ((show Go.Proofs.Tryd.prog.globalNamed "crimp/forms.turned" = some 1 by kernel_rfl).symm.trans hg2)
    obtain rfl := Option.some.inj ((show (Go.Proofs.Tryd.prog.globals[1]?).map (·.type) = some 58 by kernel_rfl).symm.trans ht2)
    have e := fn_table turnedNames turnedFns Go.Proofs.Tryd.underlying58 Go.Proofs.Tryd.underlying57 (by kernel_rfl) (by kernel_rfl) hd2 rfl rfl (by kernel_rfl)
    refine rel_of_cells (cs := cs2.toList) (A := fun _ => False) (by omega) (fun h => h) (size_of_var hg2 hv2) (fun k => ?_) (by rw [e]; kernel_rfl)
    rw [World.var?_cell hg2 hv2 k]; simp
  intro g t hgt
  unfold glob0 at hgt
  split at hgt
  · cases hgt; exact r1
  · cases hgt; exact r2
  · cases hgt; exact r0
  · cases hgt

section
variable {H : Type} {enc : TypeId × Value → H} {w : World} {base : Nat} {sp : Nat → Bool} {held : Bool} {fuel : Nat} {cs : List Value} {x : DataW H × List MemPlace}

set_option maxRecDepth 100000 in
theorem rd_crease (h : DataW.trod enc Go.Proofs.Tryd.prog w base sp held fuel 55 cs = some x) : ∃ q : Cr, (inK .i64 q.c ∧ inK .u8 q.e ∧ inK .u8 q.k) ∧ cs = [.int .i64 q.c, .int .u8 q.e, .int .u8 q.k] := by
  obtain ⟨hl, hf⟩ := rd_struct Go.Proofs.Tryd.underlying55 h
  have hl : cs.length = 3 := hl.trans (by kernel_rfl)
  match cs, hl with
  | [v0, v1, v2], _ =>
    simp only [List.mem_cons, forall_eq_or_imp, List.not_mem_nil, false_implies, implies_true, and_true] at hf
    obtain ⟨⟨m0, y0, h0⟩, ⟨m1, y1, h1⟩, ⟨m2, y2, h2⟩⟩ := hf
    replace h0 : DataW.trod enc Go.Proofs.Tryd.prog w base sp held m0 3 [v0] = some y0 := h0
    replace h1 : DataW.trod enc Go.Proofs.Tryd.prog w base sp held m1 5 [v1] = some y1 := h1
    replace h2 : DataW.trod enc Go.Proofs.Tryd.prog w base sp held m2 53 [v2] = some y2 := h2
    obtain ⟨a, ea, ha⟩ := rd_int Go.Proofs.Tryd.underlying3 h0
    obtain ⟨b, eb, hb⟩ := rd_int Go.Proofs.Tryd.underlying5 h1
    obtain ⟨c, ec, hc⟩ := rd_int Go.Proofs.Tryd.underlying53 h2
    cases ea; cases eb; cases ec
    exact ⟨⟨a, b, c⟩, ⟨ha, hb, hc⟩, rfl⟩

def inPt (p : Pt) : Prop := inK .i64 p.W ∧ inK .i64 p.H ∧ ∀ c ∈ p.l, inK .i64 c.c ∧ inK .u8 c.e ∧ inK .u8 c.k
set_option maxRecDepth 100000 in
theorem rd_pattern (h : DataW.trod enc Go.Proofs.Tryd.prog w base sp held fuel 29 cs = some x) : ∃ (p : Pt) (v : Value), inPt p ∧ cs = [.int .i64 p.W, .int .i64 p.H, v] ∧ D w (fun _ => False) Nobody (.sl 3 p.l.length (rowOf p.l) none) v := by
  obtain ⟨hl, hf⟩ := rd_struct Go.Proofs.Tryd.underlying29 h
  have hl : cs.length = 3 := hl.trans (by kernel_rfl)
  match cs, hl with
  | [v0, v1, v2], _ =>
    simp only [List.mem_cons, forall_eq_or_imp, List.not_mem_nil, false_implies, implies_true, and_true] at hf
    obtain ⟨⟨m0, y0, h0⟩, ⟨m1, y1, h1⟩⟩ := hf
    replace h0 : DataW.trod enc Go.Proofs.Tryd.prog w base sp held m0 26 [v0, v1] = some y0 := h0
    replace h1 : DataW.trod enc Go.Proofs.Tryd.prog w base sp held m1 27 [v2] = some y1 := h1
    obtain ⟨_, hg⟩ := rd_struct Go.Proofs.Tryd.underlying26 h0
    simp only [List.mem_cons, forall_eq_or_imp, List.not_mem_nil, false_implies, implies_true, and_true] at hg
    obtain ⟨⟨m2, y2, h2⟩, ⟨m3, y3, h3⟩⟩ := hg
    replace h2 : DataW.trod enc Go.Proofs.Tryd.prog w base sp held m2 3 [v0] = some y2 := h2
    replace h3 : DataW.trod enc Go.Proofs.Tryd.prog w base sp held m3 3 [v1] = some y3 := h3
    obtain ⟨a, ea, ha⟩ := rd_int Go.Proofs.Tryd.underlying3 h2
    obtain ⟨b, eb, hb⟩ := rd_int Go.Proofs.Tryd.underlying3 h3
    cases ea; cases eb
    obtain ⟨l, v, ev, _, hD, hok⟩ := rd_sl d0 crSV (fun q => inK .i64 q.c ∧ inK .u8 q.e ∧ inK .u8 q.k) Go.Proofs.Tryd.underlying27 (sz := 3) (by kernel_rfl) (by omega) (A := fun _ => False) (fun _ h => h) (fun m R y hy => by
      obtain ⟨q, hq, rfl⟩ := rd_crease hy
      refine ⟨q, hq, rfl, rfl, fun v hv => ?_, fun j s v hs hv => ?_⟩
      · simp at hv; rcases hv with rfl | rfl | rfl <;> rfl
      · match j, hs, hv with
        | 0, hs, hv => simp [crSV] at hs hv; subst hs hv; exact .int
        | 1, hs, hv => simp [crSV] at hs hv; subst hs hv; exact .int
        | 2, hs, hv => simp [crSV] at hs hv; subst hs hv; exact .int) h1
    cases ev
    exact ⟨⟨a, b, l⟩, v2, ⟨ha, hb, hok⟩, rfl, hD⟩

set_option maxRecDepth 100000 in
/-- A value that reads as a pattern, told in the logic. -/
theorem arg_pattern {v : Value} {d : DataW H} {ps : List MemPlace} (hok : Value.okWide Go.Proofs.Tryd.prog w .any base 29 v) (h : DataW.Trod enc Go.Proofs.Tryd.prog w 0 sp held 29 v d ps) : ∃ p : Pt, inPt p ∧ D w (fun _ => False) Nobody (patSV p) v := by
  obtain ⟨fuel, h⟩ := h
  obtain ⟨p, u, hp, hcs, hD⟩ := rd_pattern h
  unfold Value.okWide at hok
  rw [Go.Proofs.Tryd.underlying29] at hok
  obtain ⟨ca, rfl, _, _⟩ := hok
  refine ⟨p, hp, ?_⟩
  have e : ca = [.int .i64 p.W, .int .i64 p.H, u].toArray := by
    apply Array.ext'
    exact hcs
  rw [e]
  refine .agg _ rfl (fun i s v hs hv => ?_)
  match i, hs, hv with
  | 0, hs, hv => simp at hs hv; subst hs hv; exact .int
  | 1, hs, hv => simp at hs hv; subst hs hv; exact .int
  | 2, hs, hv => simp at hs hv; subst hs hv; exact hD

set_option maxRecDepth 100000 in
theorem arg_u8 {v : Value} {d : DataW H} {ps : List MemPlace} (hok : Value.okWide Go.Proofs.Tryd.prog w .any base 5 v) (h : DataW.Trod enc Go.Proofs.Tryd.prog w 0 sp held 5 v d ps) : ∃ n, inK .u8 n ∧ v = .int .u8 n := by
  obtain ⟨n, e, _, _, hw⟩ := open_int Go.Proofs.Tryd.underlying5 hok h
  exact ⟨n, inK_of_wf hw, e⟩
end

end Go.Proofs.YthfkpmobmnfgcaaDoor.V

/-
  How plain data of patterns read. Conditions: none.
-/
namespace Go.Proofs.YthfkpmobmnfgcaaDoor.V
open Go Go.RowKit Go.ChangeShapes Go.WideShapes Go.ChangeAt

section
variable {H : Type} {enc : TypeId × Value → H} {w : World} {base : Nat} {sp : Nat → Bool} {held : Bool} {fuel : Nat} {cs : List Value} {x : DataW H × List MemPlace}

set_option maxRecDepth 100000 in
theorem rd_tr (h : DataW.trod enc Go.Proofs.Tryd.prog w base sp held fuel 50 cs = some x) : ∃ q : Cr, (inK .u8 q.c ∧ inK .u8 q.e ∧ inK .u8 q.k) ∧ cs = [.int .u8 q.c, .int .u8 q.e, .int .u8 q.k] := by
  obtain ⟨xs, m, rfl, _, hl, hxl, hx⟩ := DataW.trod_array Go.Proofs.Tryd.underlying50 h
  have hl : cs.length = 3 := hl.trans (by kernel_rfl)
  have hc : Go.Proofs.Tryd.prog.cellsOf 5 = 1 := by kernel_rfl
  match cs, hl with
  | [v0, v1, v2], _ =>
    have h0 := hx 0 (by omega)
    have h1 := hx 1 (by omega)
    have h2 := hx 2 (by omega)
    rw [hc] at h0 h1 h2
    rw [List.getElem?_eq_getElem (by omega)] at h0 h1 h2
    obtain ⟨a, ea, ha⟩ := rd_int Go.Proofs.Tryd.underlying5 h0
    obtain ⟨b, eb, hb⟩ := rd_int Go.Proofs.Tryd.underlying5 h1
    obtain ⟨c, ec, hcc⟩ := rd_int Go.Proofs.Tryd.underlying5 h2
    replace ea : [v0] = [.int .u8 a] := ea
    replace eb : [v1] = [.int .u8 b] := eb
    replace ec : [v2] = [.int .u8 c] := ec
    cases ea; cases eb; cases ec
    exact ⟨⟨a, b, c⟩, ⟨ha, hb, hcc⟩, rfl⟩

set_option maxRecDepth 100000 in
theorem rd_P33 (h : DataW.trod enc Go.Proofs.Tryd.prog w base sp held fuel 24 cs = some x) : ∃ (y : PV) (v : Value), y.ok ∧ cs = [.int .u8 y.W, .int .u8 y.H, v] ∧ D w (fun _ => False) Nobody (.sl 3 y.L.length (trRow y.L) none) v := by
  obtain ⟨hl, hf⟩ := rd_struct Go.Proofs.Tryd.underlying24 h
  have hl : cs.length = 3 := hl.trans (by kernel_rfl)
  match cs, hl with
  | [v0, v1, v2], _ =>
    simp only [List.mem_cons, forall_eq_or_imp, List.not_mem_nil, false_implies, implies_true, and_true] at hf
    obtain ⟨⟨m0, y0, h0⟩, ⟨m1, y1, h1⟩, ⟨m2, y2, h2⟩⟩ := hf
    replace h0 : DataW.trod enc Go.Proofs.Tryd.prog w base sp held m0 5 [v0] = some y0 := h0
    replace h1 : DataW.trod enc Go.Proofs.Tryd.prog w base sp held m1 5 [v1] = some y1 := h1
    replace h2 : DataW.trod enc Go.Proofs.Tryd.prog w base sp held m2 22 [v2] = some y2 := h2
    obtain ⟨a, ea, ha⟩ := rd_int Go.Proofs.Tryd.underlying5 h0
    obtain ⟨b, eb, hb⟩ := rd_int Go.Proofs.Tryd.underlying5 h1
    cases ea; cases eb
    obtain ⟨l, u, ev, _, hD, hok⟩ := rd_sl d0 trSV (fun q => inK .u8 q.c ∧ inK .u8 q.e ∧ inK .u8 q.k) Go.Proofs.Tryd.underlying22 (sz := 3) (by kernel_rfl) (by omega) (A := fun _ => False) (fun _ h => h) (fun m R y hy => by
      obtain ⟨q, hq, rfl⟩ := rd_tr hy
      refine ⟨q, hq, rfl, rfl, fun v hv => ?_, fun j s v hs hv => ?_⟩
      · simp at hv; rcases hv with rfl | rfl | rfl <;> rfl
      · match j, hs, hv with
        | 0, hs, hv => simp [trSV] at hs hv; subst hs hv; exact .int
        | 1, hs, hv => simp [trSV] at hs hv; subst hs hv; exact .int
        | 2, hs, hv => simp [trSV] at hs hv; subst hs hv; exact .int) h2
    cases ev
    exact ⟨⟨a, b, l⟩, v2, ⟨ha, hb, hok⟩, rfl, hD⟩

set_option maxRecDepth 100000 in
theorem arg_P33 {v : Value} {d : DataW H} {ps : List MemPlace} (hok : Value.okWide Go.Proofs.Tryd.prog w .any base 24 v) (h : DataW.Trod enc Go.Proofs.Tryd.prog w 0 sp held 24 v d ps) : ∃ y : PV, y.ok ∧ D w (fun _ => False) Nobody (pvSV y) v := by
  obtain ⟨fuel, h⟩ := h
  obtain ⟨y, u, hy, hcs, hD⟩ := rd_P33 h
  unfold Value.okWide at hok
  rw [Go.Proofs.Tryd.underlying24] at hok
  obtain ⟨ca, rfl, _, _⟩ := hok
  refine ⟨y, hy, ?_⟩
  have e : ca = [.int .u8 y.W, .int .u8 y.H, u].toArray := by
    apply Array.ext'
    exact hcs
  rw [e]
  refine .agg _ rfl (fun i s v hs hv => ?_)
  match i, hs, hv with
  | 0, hs, hv => simp at hs hv; subst hs hv; exact .int
  | 1, hs, hv => simp at hs hv; subst hs hv; exact .int
  | 2, hs, hv => simp at hs hv; subst hs hv; exact hD
end

end Go.Proofs.YthfkpmobmnfgcaaDoor.V

/-
  Plain facts on sheets of at most 3 by 3 squares: units, their images, their middles. Conditions: none.
-/
namespace Go.Proofs.YthfkpmobmnfgcaaDoor.V
open Go

/-- A unit: a cell, an edge, and the greater neighbour beyond. -/
def goodU (W H a e : Int) : Bool := decide (neErr W H a e = 0) && decide (a < neVal W H a e) && decide (0 ≤ e) && decide (e ≤ 2)
def sh3 : List (Int × Int) := [(1, 1), (1, 2), (1, 3), (2, 1), (2, 2), (2, 3), (3, 1), (3, 2), (3, 3)]
def cells3 (W H : Int) : List Int := (List.range (4 * W * H).toNat).map fun (a : Nat) => (a : Int)
def isSh (W H : Int) : Prop := 1 ≤ W ∧ W ≤ 3 ∧ 1 ≤ H ∧ H ≤ 3
theorem sh3_mem {W H : Int} (h : isSh W H) : (W, H) ∈ sh3 := by
  obtain ⟨h1, h2, h3, h4⟩ := h
  have e1 : W = 1 ∨ W = 2 ∨ W = 3 := by omega
  have e2 : H = 1 ∨ H = 2 ∨ H = 3 := by omega
  rcases e1 with rfl | rfl | rfl <;> rcases e2 with rfl | rfl | rfl <;> decide
theorem cells3_mem {W H a : Int} (h0 : 0 ≤ a) (h1 : a < 4 * W * H) : a ∈ cells3 W H := by
  unfold cells3
  exact List.mem_map.2 ⟨a.toNat, List.mem_range.2 (by omega), Int.toNat_of_nonneg h0⟩
theorem e3_mem {e : Int} (h0 : 0 ≤ e) (h1 : e ≤ 2) : e ∈ ([0, 1, 2] : List Int) := by
  have : e = 0 ∨ e = 1 ∨ e = 2 := by omega
  rcases this with rfl | rfl | rfl <;> simp
theorem t8_mem {t : Int} (h0 : 0 ≤ t) (h1 : t ≤ 7) : t ∈ ([0, 1, 2, 3, 4, 5, 6, 7] : List Int) := by
  have : t = 0 ∨ t = 1 ∨ t = 2 ∨ t = 3 ∨ t = 4 ∨ t = 5 ∨ t = 6 ∨ t = 7 := by omega
  rcases this with rfl | rfl | rfl | rfl | rfl | rfl | rfl | rfl <;> simp

/-- The document's neighbours are the program's. -/
def chkN : Bool := sh3.all fun s => (cells3 s.1 s.2).all fun a => ([0, 1, 2] : List Int).all fun k =>
  decide (n25 s.1 s.2 a k < 0) || (decide (n25 s.1 s.2 a k ≠ a) && goodU s.1 s.2 (min a (n25 s.1 s.2 a k)) (e28 s.1 s.2 (min a (n25 s.1 s.2 a k)) (max a (n25 s.1 s.2 a k))) && decide (neVal s.1 s.2 (min a (n25 s.1 s.2 a k)) (e28 s.1 s.2 (min a (n25 s.1 s.2 a k)) (max a (n25 s.1 s.2 a k))) = max a (n25 s.1 s.2 a k)))
theorem chkN_ok : chkN = true := by decide +kernel
theorem nb_unit {W H a k : Int} (h : isSh W H) (h0 : 0 ≤ a) (h1 : a < 4 * W * H) (hk : 0 ≤ k) (hk2 : k ≤ 2) (hb : 0 ≤ n25 W H a k) :
    n25 W H a k ≠ a ∧ goodU W H (min a (n25 W H a k)) (e28 W H (min a (n25 W H a k)) (max a (n25 W H a k))) = true ∧ neVal W H (min a (n25 W H a k)) (e28 W H (min a (n25 W H a k)) (max a (n25 W H a k))) = max a (n25 W H a k) := by
  have := List.all_eq_true.1 (List.all_eq_true.1 (List.all_eq_true.1 chkN_ok _ (sh3_mem h)) a (cells3_mem h0 h1)) k (e3_mem hk hk2)
  simp only [Bool.or_eq_true, Bool.and_eq_true, decide_eq_true_eq] at this
  rcases this with h | ⟨⟨h2, h3⟩, h4⟩
  · omega
  · exact ⟨h2, h3, h4⟩

/-- A crease of a sheet. -/
def goodC (W H : Int) (c : Cr) : Prop := goodU W H c.c c.e = true ∧ 1 ≤ c.k ∧ c.k ≤ 3
theorem PV.cr_good {x : PV} (h : x.ok) {t : Cr} (ht : t ∈ x.L) (hb : ¬ x.b t < 0) : goodC x.w x.h (x.cr t) := by
  have hn := x.n_pos h
  obtain ⟨i1, i2, i3⟩ := h.2.2 t ht
  simp only [inK] at i1 i2 i3
  have a0 : 0 ≤ x.a t := Int.emod_nonneg _ (by omega)
  have a1 : x.a t < x.n := Int.emod_lt_of_pos _ (by omega)
  have hu := nb_unit (x.sh h) a0 a1 (k := t.e % 3) (by omega) (by omega) (by show 0 ≤ x.b t; omega)
  change x.b t ≠ x.a t ∧ goodU x.w x.h (min (x.a t) (x.b t)) (e28 x.w x.h (min (x.a t) (x.b t)) (max (x.a t) (x.b t))) = true ∧ _ at hu
  unfold PV.cr
  split
  · rename_i hlt
    rw [Int.min_eq_right (by omega), Int.max_eq_left (by omega)] at hu
    exact ⟨hu.2.1, by show 1 ≤ 1 + t.k % 3; omega, by show 1 + t.k % 3 ≤ 3; omega⟩
  · rename_i hlt
    rw [Int.min_eq_left (by omega), Int.max_eq_right (by omega)] at hu
    exact ⟨hu.2.1, by show 1 ≤ 1 + t.k % 3; omega, by show 1 + t.k % 3 ≤ 3; omega⟩
theorem PV.acc_good {x : PV} (h : x.ok) (i : Nat) : ∀ c ∈ x.acc i, goodC x.w x.h c := by
  have key : ∀ (l acc : List Cr), (∀ t ∈ l, t ∈ x.L) → (∀ c ∈ acc, goodC x.w x.h c) → ∀ c ∈ l.foldl x.step acc, goodC x.w x.h c := by
    intro l
    induction l with
    | nil => intro acc _ h; exact h
    | cons t l ih =>
      intro acc hl ha
      refine ih _ (fun t ht => hl t (by simp [ht])) (fun c hc => ?_)
      unfold PV.step at hc
      split at hc
      · exact ha c hc
      · split at hc
        · exact ha c hc
        · rename_i hb _
          rcases List.mem_append.1 hc with hc | hc
          · exact ha c hc
          · obtain rfl : c = x.cr t := by simpa using hc
            exact x.cr_good h (hl t (by simp)) hb
  exact key _ [] (fun t ht => List.mem_of_mem_take ht) (fun c hc => by cases hc)

/-- Creases of a sheet, no unit twice, in order: a valid pattern. -/
theorem patErr_good {W H : Int} (hs : isSh W H) {l : List Cr} (hg : ∀ c ∈ l, goodC W H c) (hu : unitsOK l) : patErr ⟨W, H, sortCr l⟩ = 0 ∧ (∀ c ∈ sortCr l, goodC W H c) := by
  have hg' : ∀ c ∈ sortCr l, goodC W H c := fun c hc => hg c ((sortCr_perm l).mem_iff.1 hc)
  refine ⟨?_, hg'⟩
  have h0 : shErr W H = 0 := by
    obtain ⟨h1, h2, h3, h4⟩ := hs
    have e1 : W = 1 ∨ W = 2 ∨ W = 3 := by omega
    have e2 : H = 1 ∨ H = 2 ∨ H = 3 := by omega
    rcases e1 with rfl | rfl | rfl <;> rcases e2 with rfl | rfl | rfl <;> decide
  have h1 : (sortCr l).any badK = false := by
    rw [List.any_eq_false]
    intro c hc
    obtain ⟨_, k1, k2⟩ := hg' c hc
    simp [badK, isKB, k1, k2]
  have h2 : (sortCr l).any (patBadN ⟨W, H, sortCr l⟩) = false := by
    rw [List.any_eq_false]
    intro c hc
    obtain ⟨hc, _⟩ := hg' c hc
    simp only [goodU, Bool.and_eq_true, decide_eq_true_eq] at hc
    obtain ⟨⟨⟨g1, g2⟩, g3⟩, g4⟩ := hc
    have m : nmCell W H c.c c.e = c.c := by rw [nmCell, if_pos g1]; omega
    have m2 : nmEdge W H c.c c.e = c.e := by rw [nmEdge, if_pos g1]
    simp [patBadN, g1, m, m2]
  have h3 : (List.range ((sortCr l).length - 1)).any (patBadO ⟨W, H, sortCr l⟩) = false := by
    rw [List.any_eq_false]
    intro i hi
    have hi := List.mem_range.1 hi
    have hu' := unitsOK_perm hu (sortCr_perm l)
    have hne := unitsOK_get hu' (i := i) (j := i + 1) (by omega) (by omega) (by omega)
    have hle := List.pairwise_iff_getElem.1 (sortCr_sorted l) i (i + 1) (by omega) (by omega) (by omega)
    have e1 : (sortCr l).getD i d0 = (sortCr l)[i] := by simp [List.getD_eq_getElem?_getD, (by omega : i < (sortCr l).length)]
    have e2 : (sortCr l).getD (i + 1) d0 = (sortCr l)[i + 1] := by simp [List.getD_eq_getElem?_getD, (by omega : i + 1 < (sortCr l).length)]
    rw [e1, e2] at hne
    unfold leC at hle
    simp only [ltC, decide_eq_false_iff_not] at hle
    simp only [patBadO, e1, e2, ordU, decide_eq_true_eq]
    split <;> omega
  rw [patErr, if_pos h0]
  show (if (sortCr l).any badK then (1 : Int) else if (sortCr l).any (patBadN ⟨W, H, sortCr l⟩) then 7 else if (List.range ((sortCr l).length - 1)).any (patBadO ⟨W, H, sortCr l⟩) then 6 else 0) = 0
  rw [h1, h2, h3]
  rfl

/-- The pattern of plain data is valid. -/
theorem ofP_ok {x : PV} (h : x.ok) : patErr (ofP x) = 0 ∧ (∀ c ∈ (ofP x).l, goodC x.w x.h c) ∧ (ofP x).l.length ≤ 30 := by
  obtain ⟨h1, h2⟩ := patErr_good (x.sh h) (x.acc_good h x.cnt) (x.units x.cnt)
  refine ⟨h1, h2, ?_⟩
  show (sortCr (x.acc x.cnt)).length ≤ 30
  rw [sortCr_length]
  have := x.acc_len x.cnt
  have : x.cnt ≤ 30 := Nat.min_le_left _ _
  omega
theorem goodC_k {W H : Int} {c : Cr} (h : goodC W H c) : inK .u8 c.e ∧ inK .u8 c.k := by
  obtain ⟨h1, h2, h3⟩ := h
  simp only [goodU, Bool.and_eq_true, decide_eq_true_eq] at h1
  simp only [inK]
  omega

end Go.Proofs.YthfkpmobmnfgcaaDoor.V

