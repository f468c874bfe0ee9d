/-
  Parts of the proof: P25 L4 L3 L5 L1 L6 L7 L8. Conditions: none.
-/
import Derived.Test.YthfkpmobmnfgcaaDoorBc8
import Derived.Test.YthfkpmobmnfgcaaDoorBc9
/-
  The document's own image of a pattern: its walk. Conditions: none.
-/
namespace Go.Proofs.YthfkpmobmnfgcaaDoor.V
open Go

def dTo (W H : Int) (c : Cr) : Nat → Int
  | 0 => -1
  | m + 1 => if 0 ≤ n25 W H c.c (m : Nat) ∧ e28 W H c.c (n25 W H c.c (m : Nat)) = c.e then n25 W H c.c (m : Nat) else dTo W H c m
def luHit (W H t : Int) (a b : Int) (c : Cr) : Bool := !decide (dTo W H c 3 < 0) && (decide ((tuP (mdX W c.c (dTo W H c 3)) (mdY W H c.c (dTo W H c 3)) t).1 = mdX W a b) && (decide ((tuP (mdX W c.c (dTo W H c 3)) (mdY W H c.c (dTo W H c 3)) t).2 = mdY W H a b)))
def luMk (W H t : Int) (a b : Int) (c : Cr) : Cr := ⟨a, e28 W H a b, if t > 3 ∧ c.k ≠ 3 then 3 - c.k else c.k⟩
/-- The creases found at the neighbour k of the cell a, among the first i. -/
def luI (p : Pt) (t : Int) (a k i : Nat) : List Cr := ((p.l.take i).filter (luHit p.W p.H t a (n25 p.W p.H a k))).map (luMk p.W p.H t a (n25 p.W p.H a k))
def luN (p : Pt) (t : Int) (a k : Nat) : List Cr := if n25 p.W p.H a k < a then [] else luI p t a k p.l.length
def luK (p : Pt) (t : Int) (a k : Nat) : List Cr := (List.range k).flatMap (luN p t a)
def luA (p : Pt) (t : Int) (a : Nat) : List Cr := (List.range a).flatMap fun x => luK p t x 3
def luAll (p : Pt) (t : Int) : List Cr := luA p t (4 * p.W * p.H).toNat
theorem luI_succ (p : Pt) (t : Int) (a k : Nat) {i : Nat} (hi : i < p.l.length) : luI p t a k (i + 1) = if luHit p.W p.H t a (n25 p.W p.H a k) (p.l.getD i d0) = true then luI p t a k i ++ [luMk p.W p.H t a (n25 p.W p.H a k) (p.l.getD i d0)] else luI p t a k i := by
  have : p.l.take (i + 1) = p.l.take i ++ [p.l.getD i d0] := by
    rw [List.take_add_one]
    simp [List.getD_eq_getElem?_getD, hi]
  unfold luI
  rw [this, List.filter_append, List.map_append, List.filter_cons]
  split
  · rfl
  · simp
theorem luI_le (p : Pt) (t : Int) (a k i : Nat) : (luI p t a k i).length ≤ p.l.length := by
  unfold luI
  rw [List.length_map]
  exact Nat.le_trans (List.length_filter_le _ _) (List.length_take_le' _ _)
theorem luK_succ (p : Pt) (t : Int) (a k : Nat) : luK p t a (k + 1) = luK p t a k ++ luN p t a k := by
  unfold luK; rw [List.range_succ, List.flatMap_append]; simp
theorem luA_succ (p : Pt) (t : Int) (a : Nat) : luA p t (a + 1) = luA p t a ++ luK p t a 3 := by
  unfold luA; rw [List.range_succ, List.flatMap_append]; simp
theorem luN_le (p : Pt) (t : Int) (a k : Nat) : (luN p t a k).length ≤ p.l.length := by
  unfold luN
  split
  · simp
  · exact luI_le p t a k _
theorem luK_le (p : Pt) (t : Int) (a k : Nat) : (luK p t a k).length ≤ k * p.l.length := by
  induction k with
  | zero => simp [luK]
  | succ k ih =>
    rw [luK_succ, List.length_append, Nat.succ_mul]
    have := luN_le p t a k
    omega
theorem luA_le (p : Pt) (t : Int) (a : Nat) : (luA p t a).length ≤ a * (3 * p.l.length) := by
  induction a with
  | zero => simp [luA]
  | succ a ih =>
    rw [luA_succ, List.length_append, Nat.succ_mul]
    have := luK_le p t a 3
    omega

theorem dTo_le {W H : Int} {c : Cr} (w1 : 1 ≤ W) (w2 : W ≤ 3) (h1 : 1 ≤ H) (h2 : H ≤ 3) (c1 : 0 ≤ c.c) (c2 : c.c ≤ 1024) : ∀ m, -1 ≤ dTo W H c m ∧ dTo W H c m ≤ 1024
  | 0 => by simp [dTo]
  | m + 1 => by
    have ih := dTo_le (c := c) w1 w2 h1 h2 c1 c2 m
    have b := n25_lt (k := (m : Int)) w1 w2 h1 h2 c1 c2
    have hn : 4 * W * H ≤ 36 := by
      have e1 : W = 1 ∨ W = 2 ∨ W = 3 := by omega
      have e2 : H = 1 ∨ H = 2 ∨ H = 3 := by omega
      rcases e1 with rfl | rfl | rfl <;> rcases e2 with rfl | rfl | rfl <;> omega
    unfold dTo
    split <;> omega
theorem md_le {W H a b : Int} (w1 : 1 ≤ W) (w2 : W ≤ 3) (h1 : 1 ≤ H) (h2 : H ≤ 3) (a1 : 0 ≤ a) (a2 : a ≤ 1024) (b1 : 0 ≤ b) (b2 : b ≤ 1024) : -100000 ≤ mdX W a b ∧ mdX W a b ≤ 100000 ∧ -100000 ≤ mdY W H a b ∧ mdY W H a b ≤ 100000 := by
  have q1 := c25_le w1 (by omega : W ≤ 256) a1 a2
  have q2 := c25_le w1 (by omega : W ≤ 256) b1 b2
  have q3 := in_le (X := a / 4 % W) (Y := a / 4 / W) (Q := a % 4) (by omega) (by omega) (by omega) (by omega)
  have q4 := in_le (X := b / 4 % W) (Y := b / 4 / W) (Q := b % 4) (by omega) (by omega) (by omega) (by omega)
  unfold mdX mdY
  omega
theorem luHit_eq {W H t a b : Int} {c : Cr} {v : Bool} (h : (decide (dTo W H c 3 < 0) || !(decide ((tuP (mdX W c.c (dTo W H c 3)) (mdY W H c.c (dTo W H c 3)) t).1 = mdX W a b) && (decide ((tuP (mdX W c.c (dTo W H c 3)) (mdY W H c.c (dTo W H c 3)) t).2 = mdY W H a b) && true))) = v) : luHit W H t a b c = !v := by
  rw [← h]
  simp only [luHit, Bool.not_or, Bool.not_not, Bool.and_true]
abbrev nLawUnder : FuncId := 11
def luPre (p : Pt) (t : Int) : Prop := 1 ≤ p.W ∧ p.W ≤ 3 ∧ 1 ≤ p.H ∧ p.H ≤ 3 ∧ 0 ≤ t ∧ t ≤ 7 ∧ p.l.length ≤ 100 ∧ (∀ c ∈ p.l, 0 ≤ c.c ∧ c.c ≤ 1024 ∧ 1 ≤ c.k ∧ c.k ≤ 3) ∧ unitsOK (luAll p t)
def kLawUnder : Kon
  | [x, .int .i64 t] => match asPat x with
    | some (a, p) => some (a ∧ luPre p t, .agg [.int .i64 p.W, .int .i64 p.H, .sl 3 (luAll p t).length (rowOf (sortCr (luAll p t))) none])
    | none => none
  | _ => none
def FLawUnder : Fam := ⟨Pt × Int, fun (p, t) => [patSV p, .int .i64 t], fun (p, t) => luPre p t, fun (p, t) => .agg [.int .i64 p.W, .int .i64 p.H, .sl 3 (luAll p t).length (rowOf (sortCr (luAll p t))) none]⟩
def ILU (p : Pt) (t : Int) : Nat → Option Inv
  | 5 => some { β := Nat, ok := fun a => (a : Int) ≤ 4 * p.W * p.H, nl := [.cell 3 2 55 3], st := fun a => ⟨[⟨8, none, .int .i64 a⟩, ⟨7, none, .int .i64 (4 * p.W * p.H)⟩, ⟨6, none, .own 3 0⟩, ⟨5, none, .own 2 0⟩, ⟨4, none, .own 1 0⟩, ⟨2, none, .own 0 0⟩, ⟨1, none, .int .i64 t⟩], [.cells 29 [.int .i64 p.W, .int .i64 p.H, .sl 3 p.l.length (rowOf p.l) none], .cells 29 [.int .i64 0, .int .i64 0, .con (Value.slice none 0 0)], .cells 26 [.int .i64 p.W, .int .i64 p.H], .cells 29 [.int .i64 p.W, .int .i64 p.H, .osl 4], .row 55 3 (luA p t a).length (rowOf (luA p t a)) none]⟩, μ := fun a => (4 * p.W * p.H).toNat - a, sub := fun a => some fun
      | 8 => some { β := Nat, ok := fun k => (a : Int) < 4 * p.W * p.H ∧ k ≤ 3, st := fun k => ⟨[⟨9, none, .int .i64 k⟩, ⟨8, none, .int .i64 a⟩, ⟨7, none, .int .i64 (4 * p.W * p.H)⟩, ⟨6, none, .own 3 0⟩, ⟨5, none, .own 2 0⟩, ⟨4, none, .own 1 0⟩, ⟨2, none, .own 0 0⟩, ⟨1, none, .int .i64 t⟩], [.cells 29 [.int .i64 p.W, .int .i64 p.H, .sl 3 p.l.length (rowOf p.l) none], .cells 29 [.int .i64 0, .int .i64 0, .con (Value.slice none 0 0)], .cells 26 [.int .i64 p.W, .int .i64 p.H], .cells 29 [.int .i64 p.W, .int .i64 p.H, .osl 4], .row 55 3 (luA p t a ++ luK p t a k).length (rowOf (luA p t a ++ luK p t a k)) none]⟩, μ := fun k => 3 - k, sub := fun k => some fun
        | 14 => some { β := Nat, ok := fun i => (a : Int) < 4 * p.W * p.H ∧ k < 3 ∧ ¬ n25 p.W p.H a k < a ∧ i ≤ p.l.length, st := fun i => ⟨[⟨12, none, .int .i64 i⟩, ⟨11, none, .own 5 0⟩, ⟨10, none, .int .i64 (n25 p.W p.H a k)⟩, ⟨9, none, .int .i64 k⟩, ⟨8, none, .int .i64 a⟩, ⟨7, none, .int .i64 (4 * p.W * p.H)⟩, ⟨6, none, .own 3 0⟩, ⟨5, none, .own 2 0⟩, ⟨4, none, .own 1 0⟩, ⟨2, none, .own 0 0⟩, ⟨1, none, .int .i64 t⟩], [.cells 29 [.int .i64 p.W, .int .i64 p.H, .sl 3 p.l.length (rowOf p.l) none], .cells 29 [.int .i64 0, .int .i64 0, .con (Value.slice none 0 0)], .cells 26 [.int .i64 p.W, .int .i64 p.H], .cells 29 [.int .i64 p.W, .int .i64 p.H, .osl 4], .row 55 3 (luA p t a ++ luK p t a k ++ luI p t a k i).length (rowOf (luA p t a ++ luK p t a k ++ luI p t a k i)) none, .cells 62 [.int .i64 (mdX p.W a (n25 p.W p.H a k)), .int .i64 (mdY p.W p.H a (n25 p.W p.H a k))]]⟩, μ := fun i => p.l.length - i, sub := fun i => some fun
          | 19 => some { β := Nat, ok := fun m => (a : Int) < 4 * p.W * p.H ∧ k < 3 ∧ ¬ n25 p.W p.H a k < a ∧ i < p.l.length ∧ m ≤ 3, st := fun m => ⟨[⟨15, none, .int .i64 m⟩, ⟨14, none, .int .i64 (dTo p.W p.H (p.l.getD i d0) m)⟩, ⟨13, none, .own 6 0⟩, ⟨12, none, .int .i64 i⟩, ⟨11, none, .own 5 0⟩, ⟨10, none, .int .i64 (n25 p.W p.H a k)⟩, ⟨9, none, .int .i64 k⟩, ⟨8, none, .int .i64 a⟩, ⟨7, none, .int .i64 (4 * p.W * p.H)⟩, ⟨6, none, .own 3 0⟩, ⟨5, none, .own 2 0⟩, ⟨4, none, .own 1 0⟩, ⟨2, none, .own 0 0⟩, ⟨1, none, .int .i64 t⟩], [.cells 29 [.int .i64 p.W, .int .i64 p.H, .sl 3 p.l.length (rowOf p.l) none], .cells 29 [.int .i64 0, .int .i64 0, .con (Value.slice none 0 0)], .cells 26 [.int .i64 p.W, .int .i64 p.H], .cells 29 [.int .i64 p.W, .int .i64 p.H, .osl 4], .row 55 3 (luA p t a ++ luK p t a k ++ luI p t a k i).length (rowOf (luA p t a ++ luK p t a k ++ luI p t a k i)) none, .cells 62 [.int .i64 (mdX p.W a (n25 p.W p.H a k)), .int .i64 (mdY p.W p.H a (n25 p.W p.H a k))], .cells 55 (crSV (p.l.getD i d0))]⟩, μ := fun m => 3 - m }
          | _ => none }
        | _ => none }
      | _ => none }
  | _ => none
set_option maxHeartbeats 16000000 in
set_option maxRecDepth 100000 in
theorem pLawUnder : PS nLawUnder kLawUnder := by
  refine conX [(nN25, kN25), (nE28, kE28), (nMiddle, kMiddle), (nT26, kT26)] (by simpa using ⟨pN25, pE28, pMiddle, pT26⟩) [(nOrdered, eOrdered)] (by simpa using xOrdered) (fun _ => false) FLawUnder (fun (p, t) => ILU p t) kLawUnder ?_ ?_ Go.Proofs.Tryd.func11 (by kernel_rfl) (by kernel_rfl) (by kernel_rfl) ?_
  · intro args pre s h hp
    unfold kLawUnder at h
    split at h
    · split at h
      · rename_i x t _ a p hx
        cases h
        exact ⟨(p, t), ⟨(asPat_le hx hp.1).1, by simp [SV.le2, SV.le1, SV.le0], trivial⟩, hp.2, rfl⟩
      · cases h
    · cases h
  · intro i; show 2 ≤ _; decide
  · rintro ⟨p, t⟩ hp
    replace hp : luPre p t := hp
    obtain ⟨w1, w2, h1, h2, t1, t2, hlen, hcr, hun⟩ := hp
    have hn : 4 ≤ 4 * p.W * p.H ∧ 4 * p.W * p.H ≤ 36 := by
      have e1 : p.W = 1 ∨ p.W = 2 ∨ p.W = 3 := by omega
      have e2 : p.H = 1 ∨ p.H = 2 ∨ p.H = 3 := by omega
      rcases e1 with e1 | e1 | e1 <;> rcases e2 with e2 | e2 | e2 <;> rw [e1, e2] <;> omega
    repeat (any_goals (first
      | (with_reducible refine And.intro (Ask.mk ?_) ?_
         first | exact trivial | exact fun _ => trivial)
      | with_reducible refine And.intro ?_ ?_
      | with_reducible refine Br.mk (fun h => ?_) (fun h => ?_)
      | with_reducible exact True.intro
      | (with_reducible refine Late.mk ?_
         exact rfl)
      | (fail_if_success with_reducible apply stopA
         fail_if_success with_reducible apply stopE
         fail_if_success with_reducible apply stopF
         fail_if_success with_reducible apply Exists.intro
         fail_if_success with_reducible intro _
         fail_if_success with_reducible apply stopK
         fail_if_success with_reducible apply stopL
         conv => whnf)))
    all_goals (try with_reducible refine Ask.mk ?_)
    all_goals (try first | exact trivial | exact fun _ => trivial)
    all_goals (try dsimp only)
    all_goals (try (simp only [inK]; omega))
    refine ⟨(0 : Nat), by omega, ?_, ?_⟩
    · repeat (any_goals (first
        | (with_reducible refine And.intro (Ask.mk ?_) ?_
           first | exact trivial | exact fun _ => trivial)
        | with_reducible refine And.intro ?_ ?_
        | with_reducible refine Br.mk (fun h => ?_) (fun h => ?_)
        | with_reducible exact True.intro
        | (with_reducible refine Late.mk ?_
           exact rfl)
        | (fail_if_success with_reducible apply stopA
           fail_if_success with_reducible apply stopE
           fail_if_success with_reducible apply stopF
           fail_if_success with_reducible apply Exists.intro
           fail_if_success with_reducible intro _
           fail_if_success with_reducible apply stopK
           fail_if_success with_reducible apply stopL
           conv => whnf)))
      all_goals (try with_reducible refine Ask.mk ?_)
      all_goals (try first | exact trivial | exact fun _ => trivial)
      all_goals (try dsimp only)
      all_goals first | rfl | exact fun _ _ => rfl | exact fun _ _ => trivial | skip
      exact fun j hj => absurd hj (by omega)
    intro a ha
    replace ha : (a : Int) ≤ 4 * p.W * p.H := ha
    have hLA := luA_le p t a
    repeat (any_goals (first
      | (with_reducible refine And.intro (Ask.mk ?_) ?_
         first | exact trivial | exact fun _ => trivial)
      | with_reducible refine And.intro ?_ ?_
      | with_reducible refine Br.mk (fun h => ?_) (fun h => ?_)
      | with_reducible exact True.intro
      | (with_reducible refine Late.mk ?_
         exact rfl)
      | (fail_if_success with_reducible apply stopA
         fail_if_success with_reducible apply stopE
         fail_if_success with_reducible apply stopF
         fail_if_success with_reducible apply Exists.intro
         fail_if_success with_reducible intro _
         fail_if_success with_reducible apply stopK
         fail_if_success with_reducible apply stopL
         conv => whnf)))
    all_goals (try with_reducible refine Ask.mk ?_)
    all_goals (try first | exact trivial | exact fun _ => trivial)
    all_goals (try dsimp only)
    rotate_left
    · exact ⟨isCr_rowOf _, by
        have : a * (3 * p.l.length) ≤ 36 * 300 := Nat.mul_le_mul (by omega) (by omega)
        omega, by
        rw [crL_rowOf]
        have : a = (4 * p.W * p.H).toNat := by simp at h; omega
        rw [this]
        exact hun⟩
    · have : a = (4 * p.W * p.H).toNat := by simp at h; omega
      rw [this]; rfl
    · have : a = (4 * p.W * p.H).toNat := by simp at h; omega
      rw [this, crL_rowOf]
      exact fun _ _ => rfl
    have ha4 : (a : Int) < 4 * p.W * p.H := of_decide_eq_true h
    clear h
    have hLA2 : (luA p t a).length ≤ 10800 := by
      have : a * (3 * p.l.length) ≤ 36 * 300 := Nat.mul_le_mul (by omega) (by omega)
      omega
    refine ⟨(0 : Nat), ⟨ha4, by omega⟩, ?_, ?_⟩
    · have e : luA p t a ++ luK p t a 0 = luA p t a := by simp [luK]
      repeat (any_goals (first
        | (with_reducible refine And.intro (Ask.mk ?_) ?_
           first | exact trivial | exact fun _ => trivial)
        | with_reducible refine And.intro ?_ ?_
        | with_reducible refine Br.mk (fun h => ?_) (fun h => ?_)
        | with_reducible exact True.intro
        | (with_reducible refine Late.mk ?_
           exact rfl)
        | (fail_if_success with_reducible apply stopA
           fail_if_success with_reducible apply stopE
           fail_if_success with_reducible apply stopF
           fail_if_success with_reducible apply Exists.intro
           fail_if_success with_reducible intro _
           fail_if_success with_reducible apply stopK
           fail_if_success with_reducible apply stopL
           conv => whnf)))
      all_goals (try with_reducible refine Ask.mk ?_)
      all_goals (try first | exact trivial | exact fun _ => trivial)
      all_goals (try dsimp only)
      all_goals (try rw [e])
      all_goals first | rfl | exact fun _ _ => rfl | exact fun _ _ => trivial | skip
    rintro k ⟨-, k3⟩
    have hLK := luK_le p t a k
    have hLK2 : (luK p t a k).length ≤ 300 := by
      have : k * p.l.length ≤ 3 * 100 := Nat.mul_le_mul (by omega) (by omega)
      omega
    have hN := luN_le p t a k
    have bn := n25_lt (k := (k : Int)) w1 w2 h1 h2 (by omega : (0 : Int) ≤ a) (by omega)
    repeat (any_goals (first
      | (with_reducible refine And.intro (Ask.mk ?_) ?_
         first | exact trivial | exact fun _ => trivial)
      | with_reducible refine And.intro ?_ ?_
      | with_reducible refine Br.mk (fun h => ?_) (fun h => ?_)
      | with_reducible exact True.intro
      | (with_reducible refine Late.mk ?_
         exact rfl)
      | (fail_if_success with_reducible apply stopA
         fail_if_success with_reducible apply stopE
         fail_if_success with_reducible apply stopF
         fail_if_success with_reducible apply Exists.intro
         fail_if_success with_reducible intro _
         fail_if_success with_reducible apply stopK
         fail_if_success with_reducible apply stopL
         conv => whnf)))
    all_goals (try with_reducible refine Ask.mk ?_)
    all_goals (try first | exact trivial | exact fun _ => trivial)
    all_goals (try dsimp only)
    all_goals (try simp only [decide_eq_true_eq, decide_eq_false_iff_not] at *)
    all_goals (try omega)
    all_goals (try (simp only [inK]; omega))
    · have e : luA p t a ++ luK p t a (k + 1) = luA p t a ++ luK p t a k := by rw [luK_succ, luN, if_pos h]; simp
      refine ⟨k + 1, ⟨ha4, by omega⟩, by omega, ?_⟩
      rw [e]
      repeat (any_goals (first
        | (with_reducible refine And.intro (Ask.mk ?_) ?_
           first | exact trivial | exact fun _ => trivial)
        | with_reducible refine And.intro ?_ ?_
        | with_reducible refine Br.mk (fun h => ?_) (fun h => ?_)
        | with_reducible exact True.intro
        | (with_reducible refine Late.mk ?_
           exact rfl)
        | (fail_if_success with_reducible apply stopA
           fail_if_success with_reducible apply stopE
           fail_if_success with_reducible apply stopF
           fail_if_success with_reducible apply Exists.intro
           fail_if_success with_reducible intro _
           fail_if_success with_reducible apply stopK
           fail_if_success with_reducible apply stopL
           conv => whnf)))
      all_goals (try with_reducible refine Ask.mk ?_)
      all_goals (try first | exact trivial | exact fun _ => trivial)
      all_goals (try dsimp only)
      all_goals first | rfl | exact fun _ _ => rfl | exact fun _ _ => trivial | skip
    · have hb := h
      clear h
      refine ⟨(0 : Nat), ⟨ha4, by omega, hb, by omega⟩, ?_, ?_⟩
      · have e : luA p t a ++ luK p t a k ++ luI p t a k 0 = luA p t a ++ luK p t a k := by simp [luI]
        repeat (any_goals (first
          | (with_reducible refine And.intro (Ask.mk ?_) ?_
             first | exact trivial | exact fun _ => trivial)
          | with_reducible refine And.intro ?_ ?_
          | with_reducible refine Br.mk (fun h => ?_) (fun h => ?_)
          | with_reducible exact True.intro
          | (with_reducible refine Late.mk ?_
             exact rfl)
          | (fail_if_success with_reducible apply stopA
             fail_if_success with_reducible apply stopE
             fail_if_success with_reducible apply stopF
             fail_if_success with_reducible apply Exists.intro
             fail_if_success with_reducible intro _
             fail_if_success with_reducible apply stopK
             fail_if_success with_reducible apply stopL
             conv => whnf)))
        all_goals (try with_reducible refine Ask.mk ?_)
        all_goals (try first | exact trivial | exact fun _ => trivial)
        all_goals (try dsimp only)
        all_goals (try rw [e])
        all_goals first | rfl | exact fun _ _ => rfl | exact fun _ _ => trivial | skip
      rintro i ⟨-, k4, -, i3⟩
      have hLI := luI_le p t a k i
      have hci : i < p.l.length → 0 ≤ (p.l.getD i d0).c ∧ (p.l.getD i d0).c ≤ 1024 ∧ 1 ≤ (p.l.getD i d0).k ∧ (p.l.getD i d0).k ≤ 3 := fun hi => hcr _ (by simp [List.getD_eq_getElem?_getD, hi])
      have hz : (↑i : Int).toNat = i := Int.toNat_natCast i
      repeat (any_goals (first
        | (with_reducible refine And.intro (Ask.mk ?_) ?_
           first | exact trivial | exact fun _ => trivial)
        | with_reducible refine And.intro ?_ ?_
        | with_reducible refine Br.mk (fun h => ?_) (fun h => ?_)
        | with_reducible exact True.intro
        | (with_reducible refine Late.mk ?_
           exact rfl)
        | (fail_if_success with_reducible apply stopA
           fail_if_success with_reducible apply stopE
           fail_if_success with_reducible apply stopF
           fail_if_success with_reducible apply Exists.intro
           fail_if_success with_reducible intro _
           fail_if_success with_reducible apply stopK
           fail_if_success with_reducible apply stopL
           conv => whnf)))
      all_goals (try with_reducible refine Ask.mk ?_)
      all_goals (try first | exact trivial | exact fun _ => trivial)
      all_goals (try dsimp only)
      all_goals (try simp only [hz] at *)
      all_goals (try (simp at h; omega))
      all_goals (try (simp only [inK]; omega))
      · have hi := of_decide_eq_true h
        clear h
        replace hi : i < p.l.length := by omega
        obtain ⟨c1, c2, c3, c4⟩ := hci hi
        refine ⟨(0 : Nat), ⟨ha4, k4, hb, hi, by omega⟩, ?_, ?_⟩
        · repeat (any_goals (first
            | (with_reducible refine And.intro (Ask.mk ?_) ?_
               first | exact trivial | exact fun _ => trivial)
            | with_reducible refine And.intro ?_ ?_
            | with_reducible refine Br.mk (fun h => ?_) (fun h => ?_)
            | with_reducible exact True.intro
            | (with_reducible refine Late.mk ?_
               exact rfl)
            | (fail_if_success with_reducible apply stopA
               fail_if_success with_reducible apply stopE
               fail_if_success with_reducible apply stopF
               fail_if_success with_reducible apply Exists.intro
               fail_if_success with_reducible intro _
               fail_if_success with_reducible apply stopK
               fail_if_success with_reducible apply stopL
               conv => whnf)))
          all_goals (try with_reducible refine Ask.mk ?_)
          all_goals (try first | exact trivial | exact fun _ => trivial)
          all_goals (try dsimp only)
          all_goals first | rfl | exact fun _ _ => rfl | exact fun _ _ => trivial | skip
        rintro m ⟨-, -, -, -, m3⟩
        have bm := n25_lt (k := (m : Int)) w1 w2 h1 h2 c1 c2
        repeat (any_goals (first
          | (with_reducible refine And.intro (Ask.mk ?_) ?_
             first | exact trivial | exact fun _ => trivial)
          | with_reducible refine And.intro ?_ ?_
          | with_reducible refine Br.mk (fun h => ?_) (fun h => ?_)
          | with_reducible exact True.intro
          | (with_reducible refine Late.mk ?_
             exact rfl)
          | (fail_if_success with_reducible apply stopA
             fail_if_success with_reducible apply stopE
             fail_if_success with_reducible apply stopF
             fail_if_success with_reducible apply Exists.intro
             fail_if_success with_reducible intro _
             fail_if_success with_reducible apply stopK
             fail_if_success with_reducible apply stopL
             conv => whnf)))
        all_goals (try with_reducible refine Ask.mk ?_)
        all_goals (try first | exact trivial | exact fun _ => trivial)
        all_goals (try dsimp only)
        all_goals (try simp only [Bool.and_eq_true, decide_eq_true_eq, decide_eq_false_iff_not] at *)
        all_goals (try omega)
        all_goals (try (simp only [inK]; omega))
        · have e : dTo p.W p.H (p.l.getD i d0) (m + 1) = n25 p.W p.H (p.l.getD i d0).c (m : Nat) := by rw [dTo, if_pos h]
          refine ⟨m + 1, ⟨ha4, k4, hb, hi, by omega⟩, by omega, ?_⟩
          repeat (any_goals (first
            | (with_reducible refine And.intro (Ask.mk ?_) ?_
               first | exact trivial | exact fun _ => trivial)
            | with_reducible refine And.intro ?_ ?_
            | with_reducible refine Br.mk (fun h => ?_) (fun h => ?_)
            | with_reducible exact True.intro
            | (with_reducible refine Late.mk ?_
               exact rfl)
            | (fail_if_success with_reducible apply stopA
               fail_if_success with_reducible apply stopE
               fail_if_success with_reducible apply stopF
               fail_if_success with_reducible apply Exists.intro
               fail_if_success with_reducible intro _
               fail_if_success with_reducible apply stopK
               fail_if_success with_reducible apply stopL
               conv => whnf)))
          all_goals (try with_reducible refine Ask.mk ?_)
          all_goals (try first | exact trivial | exact fun _ => trivial)
          all_goals (try dsimp only)
          all_goals (try rw [e])
          all_goals first | rfl | exact fun _ _ => rfl | exact fun _ _ => trivial | skip
        · have e : dTo p.W p.H (p.l.getD i d0) (m + 1) = dTo p.W p.H (p.l.getD i d0) m := by
            have hc : (decide (0 ≤ n25 p.W p.H (p.l.getD i d0).c ↑m) && decide (e28 p.W p.H (p.l.getD i d0).c (n25 p.W p.H (p.l.getD i d0).c ↑m) = (p.l.getD i d0).e)) = false := by assumption
            rw [dTo, if_neg]
            rintro ⟨q1, q2⟩
            rw [decide_eq_true q1, decide_eq_true q2] at hc
            cases hc
          refine ⟨m + 1, ⟨ha4, k4, hb, hi, by omega⟩, by omega, ?_⟩
          repeat (any_goals (first
            | (with_reducible refine And.intro (Ask.mk ?_) ?_
               first | exact trivial | exact fun _ => trivial)
            | with_reducible refine And.intro ?_ ?_
            | with_reducible refine Br.mk (fun h => ?_) (fun h => ?_)
            | with_reducible exact True.intro
            | (with_reducible refine Late.mk ?_
               exact rfl)
            | (fail_if_success with_reducible apply stopA
               fail_if_success with_reducible apply stopE
               fail_if_success with_reducible apply stopF
               fail_if_success with_reducible apply Exists.intro
               fail_if_success with_reducible intro _
               fail_if_success with_reducible apply stopK
               fail_if_success with_reducible apply stopL
               conv => whnf)))
          all_goals (try with_reducible refine Ask.mk ?_)
          all_goals (try first | exact trivial | exact fun _ => trivial)
          all_goals (try dsimp only)
          all_goals (try rw [e])
          all_goals first | rfl | exact fun _ _ => rfl | exact fun _ _ => trivial | skip
        · have bd := dTo_le (c := p.l.getD i d0) w1 w2 h1 h2 c1 c2 m
          exact fun hd => ⟨w1, by omega, h1, by omega, c1, c2, by omega, bd.2⟩
        · have bd := dTo_le (c := p.l.getD i d0) w1 w2 h1 h2 c1 c2 m
          intro hd
          have := md_le w1 w2 h1 h2 c1 c2 (by omega : 0 ≤ dTo p.W p.H (p.l.getD i d0) m) bd.2
          exact ⟨this.1, this.2.1, this.2.2.1, this.2.2.2, t1⟩
        · obtain rfl : m = 3 := by omega
          have hh := luHit_eq (W := p.W) (H := p.H) (t := t) (a := a) (b := n25 p.W p.H a k) (c := p.l.getD i d0) (v := true) (by assumption)
          have e : luI p t a k (i + 1) = luI p t a k i := by rw [luI_succ p t a k hi, if_neg (by rw [hh]; simp)]
          refine ⟨i + 1, ⟨ha4, k4, hb, by omega⟩, by omega, ?_⟩
          rw [e]
          repeat (any_goals (first
            | (with_reducible refine And.intro (Ask.mk ?_) ?_
               first | exact trivial | exact fun _ => trivial)
            | with_reducible refine And.intro ?_ ?_
            | with_reducible refine Br.mk (fun h => ?_) (fun h => ?_)
            | with_reducible exact True.intro
            | (with_reducible refine Late.mk ?_
               exact rfl)
            | (fail_if_success with_reducible apply stopA
               fail_if_success with_reducible apply stopE
               fail_if_success with_reducible apply stopF
               fail_if_success with_reducible apply Exists.intro
               fail_if_success with_reducible intro _
               fail_if_success with_reducible apply stopK
               fail_if_success with_reducible apply stopL
               conv => whnf)))
          all_goals (try with_reducible refine Ask.mk ?_)
          all_goals (try first | exact trivial | exact fun _ => trivial)
          all_goals (try dsimp only)
          all_goals first | rfl | exact fun _ _ => rfl | exact fun _ _ => trivial | skip
        · show (luA p t a ++ luK p t a k ++ luI p t a k i).length + 1 ≤ 9223372036854775807 ∧ ((luA p t a ++ luK p t a k ++ luI p t a k i).length + 1) * 16 ≤ 140737488355328
          rw [List.length_append, List.length_append]
          omega
        · obtain rfl : m = 3 := by omega
          have hh := luHit_eq (W := p.W) (H := p.H) (t := t) (a := a) (b := n25 p.W p.H a k) (c := p.l.getD i d0) (v := false) (by assumption)
          have e : luA p t a ++ luK p t a k ++ luI p t a k (i + 1) = (luA p t a ++ luK p t a k ++ luI p t a k i) ++ [luMk p.W p.H t a (n25 p.W p.H a k) (p.l.getD i d0)] := by
            rw [luI_succ p t a k hi, if_pos (by rw [hh]; rfl)]; simp
          have ek : luMk p.W p.H t a (n25 p.W p.H a k) (p.l.getD i d0) = ⟨a, e28 p.W p.H a (n25 p.W p.H a k), 3 - (p.l.getD i d0).k⟩ := by
            have hf : 3 < t ∧ (!decide ((p.l.getD i d0).k = 3)) = true := by assumption
            rw [luMk, if_pos ⟨hf.1, by simpa using hf.2⟩]
          refine ⟨i + 1, ⟨ha4, k4, hb, by omega⟩, by omega, ?_⟩
          rw [e, ek]
          repeat (any_goals (first
            | (with_reducible refine And.intro (Ask.mk ?_) ?_
               first | exact trivial | exact fun _ => trivial)
            | with_reducible refine And.intro ?_ ?_
            | with_reducible refine Br.mk (fun h => ?_) (fun h => ?_)
            | with_reducible exact True.intro
            | (with_reducible refine Late.mk ?_
               exact rfl)
            | (fail_if_success with_reducible apply stopA
               fail_if_success with_reducible apply stopE
               fail_if_success with_reducible apply stopF
               fail_if_success with_reducible apply Exists.intro
               fail_if_success with_reducible intro _
               fail_if_success with_reducible apply stopK
               fail_if_success with_reducible apply stopL
               conv => whnf)))
          all_goals (try with_reducible refine Ask.mk ?_)
          all_goals (try first | exact trivial | exact fun _ => trivial)
          all_goals (try dsimp only)
          all_goals first | rfl | exact fun _ _ => rfl | exact fun _ _ => trivial | skip
          · simp; omega
          · exact rowOf_snoc (c := ⟨a, e28 p.W p.H a (n25 p.W p.H a k), 3 - (p.l.getD i d0).k⟩) (f := fun k' => (List.map (fun (x : Nat × List SV) => x.snd) [(0, crSV ⟨a, e28 p.W p.H a (n25 p.W p.H a k), 3 - (p.l.getD i d0).k⟩)].reverse).getD k' []) rfl
        · show (luA p t a ++ luK p t a k ++ luI p t a k i).length + 1 ≤ 9223372036854775807 ∧ ((luA p t a ++ luK p t a k ++ luI p t a k i).length + 1) * 16 ≤ 140737488355328
          rw [List.length_append, List.length_append]
          omega
        · obtain rfl : m = 3 := by omega
          have hh := luHit_eq (W := p.W) (H := p.H) (t := t) (a := a) (b := n25 p.W p.H a k) (c := p.l.getD i d0) (v := false) (by assumption)
          have e : luA p t a ++ luK p t a k ++ luI p t a k (i + 1) = (luA p t a ++ luK p t a k ++ luI p t a k i) ++ [luMk p.W p.H t a (n25 p.W p.H a k) (p.l.getD i d0)] := by
            rw [luI_succ p t a k hi, if_pos (by rw [hh]; rfl)]; simp
          have ek : luMk p.W p.H t a (n25 p.W p.H a k) (p.l.getD i d0) = ⟨a, e28 p.W p.H a (n25 p.W p.H a k), (p.l.getD i d0).k⟩ := by
            have hf : (decide (3 < t) && !decide ((p.l.getD i d0).k = 3)) = false := by assumption
            rw [luMk, if_neg]
            rintro ⟨q1, q2⟩
            rw [decide_eq_true q1, decide_eq_false q2] at hf
            cases hf
          refine ⟨i + 1, ⟨ha4, k4, hb, by omega⟩, by omega, ?_⟩
          rw [e, ek]
          repeat (any_goals (first
            | (with_reducible refine And.intro (Ask.mk ?_) ?_
               first | exact trivial | exact fun _ => trivial)
            | with_reducible refine And.intro ?_ ?_
            | with_reducible refine Br.mk (fun h => ?_) (fun h => ?_)
            | with_reducible exact True.intro
            | (with_reducible refine Late.mk ?_
               exact rfl)
            | (fail_if_success with_reducible apply stopA
               fail_if_success with_reducible apply stopE
               fail_if_success with_reducible apply stopF
               fail_if_success with_reducible apply Exists.intro
               fail_if_success with_reducible intro _
               fail_if_success with_reducible apply stopK
               fail_if_success with_reducible apply stopL
               conv => whnf)))
          all_goals (try with_reducible refine Ask.mk ?_)
          all_goals (try first | exact trivial | exact fun _ => trivial)
          all_goals (try dsimp only)
          all_goals first | rfl | exact fun _ _ => rfl | exact fun _ _ => trivial | skip
          · simp; omega
          · exact rowOf_snoc (c := ⟨a, e28 p.W p.H a (n25 p.W p.H a k), (p.l.getD i d0).k⟩) (f := fun k' => (List.map (fun (x : Nat × List SV) => x.snd) [(0, crSV ⟨a, e28 p.W p.H a (n25 p.W p.H a k), (p.l.getD i d0).k⟩)].reverse).getD k' []) rfl
      · have e : luA p t a ++ luK p t a (k + 1) = luA p t a ++ luK p t a k ++ luI p t a k i := by
          have : i = p.l.length := by simp at h; omega
          rw [luK_succ, luN, if_neg hb, this, List.append_assoc]
        refine ⟨k + 1, ⟨ha4, by omega⟩, by omega, ?_⟩
        rw [e]
        repeat (any_goals (first
          | (with_reducible refine And.intro (Ask.mk ?_) ?_
             first | exact trivial | exact fun _ => trivial)
          | with_reducible refine And.intro ?_ ?_
          | with_reducible refine Br.mk (fun h => ?_) (fun h => ?_)
          | with_reducible exact True.intro
          | (with_reducible refine Late.mk ?_
             exact rfl)
          | (fail_if_success with_reducible apply stopA
             fail_if_success with_reducible apply stopE
             fail_if_success with_reducible apply stopF
             fail_if_success with_reducible apply Exists.intro
             fail_if_success with_reducible intro _
             fail_if_success with_reducible apply stopK
             fail_if_success with_reducible apply stopL
             conv => whnf)))
        all_goals (try with_reducible refine Ask.mk ?_)
        all_goals (try first | exact trivial | exact fun _ => trivial)
        all_goals (try dsimp only)
        all_goals first | rfl | exact fun _ _ => rfl | exact fun _ _ => trivial | skip
    · have e : luA p t (a + 1) = luA p t a ++ luK p t a k := by
        have : k = 3 := by omega
        rw [luA_succ, this]
      refine ⟨a + 1, by show ((a + 1 : Nat) : Int) ≤ _; omega, by omega, ?_⟩
      rw [e]
      repeat (any_goals (first
        | (with_reducible refine And.intro (Ask.mk ?_) ?_
           first | exact trivial | exact fun _ => trivial)
        | with_reducible refine And.intro ?_ ?_
        | with_reducible refine Br.mk (fun h => ?_) (fun h => ?_)
        | with_reducible exact True.intro
        | (with_reducible refine Late.mk ?_
           exact rfl)
        | (fail_if_success with_reducible apply stopA
           fail_if_success with_reducible apply stopE
           fail_if_success with_reducible apply stopF
           fail_if_success with_reducible apply Exists.intro
           fail_if_success with_reducible intro _
           fail_if_success with_reducible apply stopK
           fail_if_success with_reducible apply stopL
           conv => whnf)))
      all_goals (try with_reducible refine Ask.mk ?_)
      all_goals (try first | exact trivial | exact fun _ => trivial)
      all_goals (try dsimp only)
      all_goals first | rfl | exact fun _ _ => rfl | exact fun _ _ => trivial | skip

end Go.Proofs.YthfkpmobmnfgcaaDoor.V

/-
  The document's own image of a pattern is the program's: plain law. Conditions: none.
-/
namespace Go.Proofs.YthfkpmobmnfgcaaDoor.V
open Go

def imLo (W H t a n : Int) : Int := min (imF W H t a) (imF W H t n)
def imHi (W H t a n : Int) : Int := max (imF W H t a) (imF W H t n)
/-- What a sheet's units must satisfy, each for itself. -/
def chkU1 (W H a e : Int) : Bool := decide (dTo W H ⟨a, e, 0⟩ 3 = neVal W H a e) && decide (e28 W H a (neVal W H a e) = e) && (List.range 3).any (fun (k : Nat) => decide (n25 W H a k = neVal W H a e))
def chkU2 (W H t a e : Int) : Bool := decide (tuP (mdX W a (neVal W H a e)) (mdY W H a (neVal W H a e)) t = (mdX W (imLo W H t a (neVal W H a e)) (imHi W H t a (neVal W H a e)), mdY W H (imLo W H t a (neVal W H a e)) (imHi W H t a (neVal W H a e)))) &&
  goodU W H (imLo W H t a (neVal W H a e)) (edgeF W H (imLo W H t a (neVal W H a e)) (imHi W H t a (neVal W H a e))) && decide (neVal W H (imLo W H t a (neVal W H a e)) (edgeF W H (imLo W H t a (neVal W H a e)) (imHi W H t a (neVal W H a e))) = imHi W H t a (neVal W H a e))
def chkU : Bool := sh3.all fun s => (cells3 s.1 s.2).all fun a => ([0, 1, 2] : List Int).all fun e => !goodU s.1 s.2 a e || (chkU1 s.1 s.2 a e && ([0, 1, 2, 3, 4, 5, 6, 7] : List Int).all fun t => (decide (t % 2 = 1) && decide (s.1 ≠ s.2)) || chkU2 s.1 s.2 t a e)
theorem chkU_ok : chkU = true := by decide +kernel
/-- The pairs of a cell and a neighbour that is not less. -/
def pairs (W H : Int) : List (Int × Nat) := (cells3 W H).flatMap fun a => ((List.range 3).filter fun (k : Nat) => decide (a ≤ n25 W H a k)).map fun k => (a, k)
def chkI : Bool := sh3.all fun s => (pairs s.1 s.2).all fun x => (pairs s.1 s.2).all fun y => decide (x = y) || !(decide (mdX s.1 x.1 (n25 s.1 s.2 x.1 x.2) = mdX s.1 y.1 (n25 s.1 s.2 y.1 y.2)) && decide (mdY s.1 s.2 x.1 (n25 s.1 s.2 x.1 x.2) = mdY s.1 s.2 y.1 (n25 s.1 s.2 y.1 y.2)))
theorem chkI_ok : chkI = true := by decide +kernel

theorem goodU_spec {W H a e : Int} (h : goodU W H a e = true) : neErr W H a e = 0 ∧ a < neVal W H a e ∧ 0 ≤ e ∧ e ≤ 2 := by
  simp only [goodU, Bool.and_eq_true, decide_eq_true_eq] at h
  obtain ⟨⟨⟨g1, g2⟩, g3⟩, g4⟩ := h
  exact ⟨g1, g2, g3, g4⟩
theorem ce_cell {W H i : Int} (h : ceErr W H i = 0) : 0 ≤ i ∧ i < 4 * W * H := by
  unfold ceErr at h
  split at h
  · split at h
    · rename_i hb
      simpa [hasB] using hb
    · cases h
  · cases h
theorem goodU_cell {W H a e : Int} (h : goodU W H a e = true) : 0 ≤ a ∧ a < 4 * W * H ∧ 0 ≤ neVal W H a e ∧ neVal W H a e < 4 * W * H := by
  obtain ⟨g1, g2, g3, g4⟩ := goodU_spec h
  obtain ⟨h1, h2⟩ := ne_ce g3 g1
  exact ⟨(ce_cell h1).1, (ce_cell h1).2, (ce_cell h2).1, (ce_cell h2).2⟩
theorem unit_facts {W H a e : Int} (hs : isSh W H) (h : goodU W H a e = true) : dTo W H ⟨a, e, 0⟩ 3 = neVal W H a e ∧ e28 W H a (neVal W H a e) = e ∧ (∃ k : Nat, k < 3 ∧ n25 W H a k = neVal W H a e) ∧ ∀ t, 0 ≤ t → t ≤ 7 → (t % 2 = 0 ∨ W = H) → chkU2 W H t a e = true := by
  obtain ⟨g1, g2, g3, g4⟩ := goodU_spec h
  obtain ⟨c1, c2, _, _⟩ := goodU_cell h
  have := List.all_eq_true.1 (List.all_eq_true.1 (List.all_eq_true.1 chkU_ok _ (sh3_mem hs)) a (cells3_mem c1 c2)) e (e3_mem g3 g4)
  simp only [h, Bool.not_true, Bool.false_or, Bool.and_eq_true] at this
  obtain ⟨h1, h2⟩ := this
  simp only [chkU1, Bool.and_eq_true, decide_eq_true_eq] at h1
  obtain ⟨⟨u1, u2⟩, u3⟩ := h1
  refine ⟨u1, u2, ?_, fun t t0 t7 ht => ?_⟩
  · obtain ⟨k, hk, hk2⟩ := List.any_eq_true.1 u3
    exact ⟨k, List.mem_range.1 hk, of_decide_eq_true hk2⟩
  · have := List.all_eq_true.1 h2 t (t8_mem t0 t7)
    rw [Bool.or_eq_true] at this
    rcases this with h3 | h3
    · simp only [Bool.and_eq_true, decide_eq_true_eq] at h3
      rcases ht with ht | ht
      · omega
      · exact absurd ht h3.2
    · exact h3
theorem dTo_k {W H : Int} (c : Cr) : ∀ m, dTo W H c m = dTo W H ⟨c.c, c.e, 0⟩ m
  | 0 => rfl
  | m + 1 => by simp only [dTo, dTo_k c m]
theorem pairs_mem {W H a : Int} {k : Nat} (h0 : 0 ≤ a) (h1 : a < 4 * W * H) (hk : k < 3) (hb : a ≤ n25 W H a k) : (a, k) ∈ pairs W H := by
  unfold pairs
  refine List.mem_flatMap.2 ⟨a, cells3_mem h0 h1, List.mem_map.2 ⟨k, List.mem_filter.2 ⟨List.mem_range.2 hk, by simpa using hb⟩, rfl⟩⟩
theorem mid_inj {W H a a' : Int} {k k' : Nat} (hs : isSh W H) (h0 : 0 ≤ a) (h1 : a < 4 * W * H) (hk : k < 3) (hb : a ≤ n25 W H a k) (h0' : 0 ≤ a') (h1' : a' < 4 * W * H) (hk' : k' < 3) (hb' : a' ≤ n25 W H a' k')
    (hx : mdX W a (n25 W H a k) = mdX W a' (n25 W H a' k')) (hy : mdY W H a (n25 W H a k) = mdY W H a' (n25 W H a' k')) : a = a' ∧ k = k' := by
  have := List.all_eq_true.1 (List.all_eq_true.1 (List.all_eq_true.1 chkI_ok _ (sh3_mem hs)) _ (pairs_mem h0 h1 hk hb)) _ (pairs_mem h0' h1' hk' hb')
  simp only [hx, hy, decide_true, Bool.and_self, Bool.not_true, Bool.or_false, decide_eq_true_eq, Prod.mk.injEq] at this
  exact this
theorem pair_unit {W H a : Int} {k : Nat} (hs : isSh W H) (h0 : 0 ≤ a) (h1 : a < 4 * W * H) (hk : k < 3) (hb : a ≤ n25 W H a k) : goodU W H a (e28 W H a (n25 W H a k)) = true ∧ neVal W H a (e28 W H a (n25 W H a k)) = n25 W H a k := by
  have := nb_unit hs h0 h1 (k := (k : Int)) (by omega) (by omega) (by omega)
  rw [Int.min_eq_left (by omega), Int.max_eq_right (by omega)] at this
  exact this.2
theorem tuP_inj {x y x' y' t : Int} (h0 : 0 ≤ t) (h7 : t ≤ 7) (h : tuP x y t = tuP x' y' t) : x = x' ∧ y = y' := by
  have : t = 0 ∨ t = 1 ∨ t = 2 ∨ t = 3 ∨ t = 4 ∨ t = 5 ∨ t = 6 ∨ t = 7 := by omega
  rcases this with rfl | rfl | rfl | rfl | rfl | rfl | rfl | rfl <;> simp [tuP, rot] at h <;> omega

/-- A valid pattern of a small sheet. -/
def goodP (p : Pt) : Prop := isSh p.W p.H ∧ (∀ c ∈ p.l, goodC p.W p.H c) ∧ unitsOK p.l
def okT (p : Pt) (t : Int) : Prop := 0 ≤ t ∧ t ≤ 7 ∧ (t % 2 = 0 ∨ p.W = p.H)

theorem imgCr_eq {W H t : Int} (c : Cr) : imgCr W H t c = ⟨imLo W H t c.c (neVal W H c.c c.e), edgeF W H (imLo W H t c.c (neVal W H c.c c.e)) (imHi W H t c.c (neVal W H c.c c.e)), if t > 3 ∧ c.k ≠ 3 then 3 - c.k else c.k⟩ := rfl

/-- Where the document finds a crease again: at its image alone. -/
theorem hit_iff {p : Pt} {t : Int} (hp : goodP p) (ht : okT p t) {c : Cr} (hc : c ∈ p.l) {a : Int} {k : Nat} (h0 : 0 ≤ a) (h1 : a < 4 * p.W * p.H) (hk : k < 3) (hb : a ≤ n25 p.W p.H a k) :
    (luHit p.W p.H t a (n25 p.W p.H a k) c = true ↔ a = imLo p.W p.H t c.c (neVal p.W p.H c.c c.e) ∧ n25 p.W p.H a k = imHi p.W p.H t c.c (neVal p.W p.H c.c c.e)) ∧ (luHit p.W p.H t a (n25 p.W p.H a k) c = true → luMk p.W p.H t a (n25 p.W p.H a k) c = imgCr p.W p.H t c) := by
  obtain ⟨hs, hg, hu⟩ := hp
  obtain ⟨g, k1, k2⟩ := hg c hc
  obtain ⟨u1, u2, u3, u4⟩ := unit_facts hs g
  have u5 := u4 t ht.1 ht.2.1 ht.2.2
  simp only [chkU2, Bool.and_eq_true, decide_eq_true_eq] at u5
  obtain ⟨⟨m1, m2⟩, m3⟩ := u5
  have hd : dTo p.W p.H c 3 = neVal p.W p.H c.c c.e := by rw [dTo_k]; exact u1
  have hn := goodU_cell g
  obtain ⟨i1, i2, i3, i4⟩ := goodU_cell m2
  obtain ⟨_, v2, ⟨k0, hk0, v3⟩, _⟩ := unit_facts hs m2
  rw [m3] at v2 v3 i3 i4
  have hlt : imLo p.W p.H t c.c (neVal p.W p.H c.c c.e) < imHi p.W p.H t c.c (neVal p.W p.H c.c c.e) := by
    have := (goodU_spec m2).2.1
    rw [m3] at this
    exact this
  have key : luHit p.W p.H t a (n25 p.W p.H a k) c = true ↔ a = imLo p.W p.H t c.c (neVal p.W p.H c.c c.e) ∧ n25 p.W p.H a k = imHi p.W p.H t c.c (neVal p.W p.H c.c c.e) := by
    simp only [luHit, hd, m1, Bool.and_eq_true, Bool.not_eq_true', decide_eq_false_iff_not, decide_eq_true_eq]
    constructor
    · rintro ⟨_, hx, hy⟩
      rw [← v3] at hx hy
      obtain ⟨e1, e2⟩ := mid_inj hs i1 i2 hk0 (by rw [v3]; omega) h0 h1 hk hb hx hy
      rw [← e1, ← e2]
      exact ⟨rfl, v3⟩
    · rintro ⟨e1, e2⟩
      rw [e2, e1]
      exact ⟨by omega, rfl, rfl⟩
  refine ⟨key, fun hh => ?_⟩
  obtain ⟨e1, e2⟩ := key.1 hh
  rw [luMk, imgCr_eq, e2, e1, v2]

theorem luAll_mem {p : Pt} {t : Int} {x : Cr} : x ∈ luAll p t ↔ ∃ (a k : Nat), (a : Int) < 4 * p.W * p.H ∧ k < 3 ∧ (a : Int) ≤ n25 p.W p.H a k ∧ ∃ c ∈ p.l, luHit p.W p.H t a (n25 p.W p.H a k) c = true ∧ x = luMk p.W p.H t a (n25 p.W p.H a k) c := by
  simp only [luAll, luA, luK, List.mem_flatMap, List.mem_range]
  constructor
  · rintro ⟨a, ha, k, hk, hx⟩
    unfold luN at hx
    split at hx
    · cases hx
    · rename_i hb
      simp only [luI, List.mem_map, List.mem_filter] at hx
      obtain ⟨c, ⟨hc, hh⟩, rfl⟩ := hx
      exact ⟨a, k, by omega, hk, by omega, c, List.mem_of_mem_take hc, hh, rfl⟩
  · rintro ⟨a, k, ha, hk, hb, c, hc, hh, rfl⟩
    refine ⟨a, by omega, k, hk, ?_⟩
    unfold luN
    rw [if_neg (by omega)]
    simp only [luI, List.mem_map, List.mem_filter]
    exact ⟨c, ⟨by rw [List.take_of_length_le (Nat.le_refl _)]; exact hc, hh⟩, rfl⟩

/-- Creases that have one image are one. -/
theorem img_inj {p : Pt} {t : Int} (hp : goodP p) (ht : okT p t) {c c' : Cr} (hc : c ∈ p.l) (hc' : c' ∈ p.l) (h1 : imLo p.W p.H t c.c (neVal p.W p.H c.c c.e) = imLo p.W p.H t c'.c (neVal p.W p.H c'.c c'.e)) (h2 : imHi p.W p.H t c.c (neVal p.W p.H c.c c.e) = imHi p.W p.H t c'.c (neVal p.W p.H c'.c c'.e)) : c.c = c'.c ∧ c.e = c'.e := by
  obtain ⟨hs, hg, hu⟩ := hp
  obtain ⟨g, _, _⟩ := hg c hc
  obtain ⟨g', _, _⟩ := hg c' hc'
  obtain ⟨_, u2, ⟨k, hk, u3⟩, u4⟩ := unit_facts hs g
  obtain ⟨_, u2', ⟨k', hk', u3'⟩, u4'⟩ := unit_facts hs g'
  have m := u4 t ht.1 ht.2.1 ht.2.2
  have m' := u4' t ht.1 ht.2.1 ht.2.2
  simp only [chkU2, Bool.and_eq_true, decide_eq_true_eq] at m m'
  have e : tuP (mdX p.W c.c (neVal p.W p.H c.c c.e)) (mdY p.W p.H c.c (neVal p.W p.H c.c c.e)) t = tuP (mdX p.W c'.c (neVal p.W p.H c'.c c'.e)) (mdY p.W p.H c'.c (neVal p.W p.H c'.c c'.e)) t := by rw [m.1.1, m'.1.1, h1, h2]
  obtain ⟨e1, e2⟩ := tuP_inj ht.1 ht.2.1 e
  rw [← u3, ← u3'] at e1 e2
  have n1 := goodU_spec g
  have n2 := goodU_spec g'
  have c1 := goodU_cell g
  have c2 := goodU_cell g'
  obtain ⟨q1, q2⟩ := mid_inj hs c1.1 c1.2.1 hk (by omega) c2.1 c2.2.1 hk' (by omega) e1 e2
  refine ⟨q1, ?_⟩
  rw [← u2, ← u2', ← u3, ← u3', q1, q2]

theorem unit_ne {p : Pt} (hp : goodP p) {c c' : Cr} (hc : c ∈ p.l) (hc' : c' ∈ p.l) (h : c.c = c'.c ∧ c.e = c'.e) : c = c' := by
  obtain ⟨i, hi, rfl⟩ := List.mem_iff_getElem.1 hc
  obtain ⟨j, hj, rfl⟩ := List.mem_iff_getElem.1 hc'
  by_cases e : i = j
  · subst e; rfl
  · have := unitsOK_get hp.2.2 hi hj e
    simp only [List.getD_eq_getElem?_getD, List.getElem?_eq_getElem hi, List.getElem?_eq_getElem hj, Option.getD_some] at this
    exact absurd h this

theorem imgs_units {p : Pt} {t : Int} (hp : goodP p) (ht : okT p t) : unitsOK (p.l.map (imgCr p.W p.H t)) := by
  unfold unitsOK
  rw [List.pairwise_map]
  refine List.Pairwise.imp_of_mem ?_ hp.2.2
  intro c c' hc hc' hne hh
  refine hne ?_
  obtain ⟨g, _, _⟩ := hp.2.1 c hc
  obtain ⟨g', _, _⟩ := hp.2.1 c' hc'
  have m := (unit_facts hp.1 g).2.2.2 t ht.1 ht.2.1 ht.2.2
  have m' := (unit_facts hp.1 g').2.2.2 t ht.1 ht.2.1 ht.2.2
  simp only [chkU2, Bool.and_eq_true, decide_eq_true_eq] at m m'
  obtain ⟨h1, h2⟩ := hh
  rw [imgCr_eq, imgCr_eq] at h1 h2
  refine img_inj hp ht hc hc' h1 ?_
  simp only at h1 h2
  rw [← m.2, ← m'.2, h2, h1]

theorem luAll_units {p : Pt} {t : Int} (hp : goodP p) (ht : okT p t) : unitsOK (luAll p t) := by
  have inN : ∀ (a k : Nat) (x : Cr), (a : Int) < 4 * p.W * p.H → k < 3 → x ∈ luN p t a k → (a : Int) ≤ n25 p.W p.H a k ∧ x.c = a ∧ x.e = e28 p.W p.H a (n25 p.W p.H a k) := by
    intro a k x _ _ hx
    unfold luN at hx
    split at hx
    · cases hx
    · simp only [luI, List.mem_map] at hx
      obtain ⟨c, _, rfl⟩ := hx
      exact ⟨by omega, rfl, rfl⟩
  unfold luAll luA
  unfold unitsOK
  rw [List.pairwise_flatMap]
  refine ⟨fun a ha => ?_, ?_⟩
  · have ha := List.mem_range.1 ha
    unfold luK
    rw [List.pairwise_flatMap]
    refine ⟨fun k hk => ?_, ?_⟩
    · have hk := List.mem_range.1 hk
      unfold luN
      split
      · exact .nil
      · rename_i hb
        unfold luI
        rw [List.take_of_length_le (Nat.le_refl _), List.pairwise_map]
        refine List.Pairwise.imp_of_mem ?_ (hp.2.2.filter _)
        intro c c' hc hc' hne _
        obtain ⟨c1, c2⟩ := List.mem_filter.1 hc
        obtain ⟨d1, d2⟩ := List.mem_filter.1 hc'
        have q := (hit_iff hp ht c1 (by omega) (by omega) hk (by omega)).1.1 c2
        have r := (hit_iff hp ht d1 (by omega) (by omega) hk (by omega)).1.1 d2
        exact hne (img_inj hp ht c1 d1 (q.1.symm.trans r.1) (q.2.symm.trans r.2))
    · rw [List.pairwise_iff_getElem]
      intro i j hi hj hij x hx y hy hh
      simp only [List.getElem_range] at hx hy
      simp only [List.length_range] at hi hj
      obtain ⟨x1, x2, x3⟩ := inN a i x (by omega) hi hx
      obtain ⟨y1, y2, y3⟩ := inN a j y (by omega) hj hy
      have p1 := pair_unit hp.1 (by omega) (by omega) hi x1
      have p2 := pair_unit hp.1 (by omega) (by omega) hj y1
      have e : n25 p.W p.H a i = n25 p.W p.H a j := by
        rw [← p1.2, ← p2.2, ← x3, ← y3, hh.2]
      have := (mid_inj hp.1 (by omega) (by omega) hi x1 (by omega) (by omega) hj y1 (by rw [e]) (by rw [e])).2
      omega
  · rw [List.pairwise_iff_getElem]
    intro i j hi hj hij x hx y hy hh
    simp only [List.getElem_range] at hx hy
    simp only [List.length_range] at hi hj
    obtain ⟨k, hk, hx⟩ := List.mem_flatMap.1 (show x ∈ (List.range 3).flatMap (luN p t i) from hx)
    obtain ⟨k', hk', hy⟩ := List.mem_flatMap.1 (show y ∈ (List.range 3).flatMap (luN p t j) from hy)
    obtain ⟨_, x2, _⟩ := inN i k x (by omega) (List.mem_range.1 hk) hx
    obtain ⟨_, y2, _⟩ := inN j k' y (by omega) (List.mem_range.1 hk') hy
    have := hh.1
    omega

theorem unitsOK_nodup {l : List Cr} (h : unitsOK l) : l.Nodup := h.imp fun hxy e => hxy ⟨by rw [e], by rw [e]⟩
/-- The document's image is the program's. -/
theorem lu_eq {p : Pt} {t : Int} (hp : goodP p) (ht : okT p t) : sortCr (luAll p t) = (undF p t).l := by
  show sortCr (luAll p t) = sortCr (p.l.map (imgCr p.W p.H t))
  refine sortCr_unique ((sortCr_perm _).trans ?_) (sortCr_sorted _)
  refine (List.perm_ext_iff_of_nodup (unitsOK_nodup (luAll_units hp ht)) (unitsOK_nodup (imgs_units hp ht))).2 fun x => ?_
  rw [luAll_mem, List.mem_map]
  constructor
  · rintro ⟨a, k, ha, hk, hb, c, hc, hh, rfl⟩
    exact ⟨c, hc, ((hit_iff hp ht hc (by omega) ha hk hb).2 hh).symm⟩
  · rintro ⟨c, hc, rfl⟩
    obtain ⟨g, _, _⟩ := hp.2.1 c hc
    have m := (unit_facts hp.1 g).2.2.2 t ht.1 ht.2.1 ht.2.2
    simp only [chkU2, Bool.and_eq_true, decide_eq_true_eq] at m
    obtain ⟨⟨m1, m2⟩, m3⟩ := m
    obtain ⟨i1, i2, _, _⟩ := goodU_cell m2
    obtain ⟨_, _, ⟨k, hk, v3⟩, _⟩ := unit_facts hp.1 m2
    rw [m3] at v3
    have hlt := (goodU_spec m2).2.1
    rw [m3] at hlt
    obtain ⟨a, ea⟩ : ∃ a : Nat, (a : Int) = imLo p.W p.H t c.c (neVal p.W p.H c.c c.e) := ⟨_, Int.toNat_of_nonneg i1⟩
    rw [← ea] at v3 hlt i2
    have hh := hit_iff hp ht hc (a := a) (k := k) (by omega) i2 hk (by rw [v3]; omega)
    have h1 := hh.1.2 ⟨ea, v3⟩
    exact ⟨a, k, i2, hk, by rw [v3]; omega, c, hc, h1, (hh.2 h1).symm⟩

end Go.Proofs.YthfkpmobmnfgcaaDoor.V

/-
  FormsErrors: its call returns true, whatever the input. Conditions: none.
-/
namespace Go.Proofs.YthfkpmobmnfgcaaDoor.V
open Go

def lErrors : List (FuncId × Kon) := [(nLives, kLives), (nPCheck, kPCheck), (nOf, kOf), (nImages, kImages), (nLeast, kLeast), (nSymm, kSymm), (nAlike, kAlike)]
theorem lErrors_ok : ∀ x ∈ lErrors, PS x.1 x.2 := by simpa [lErrors] using ⟨pLives, pPCheck, pOf, pImages, pLeast, pSymm, pAlike⟩
theorem crL_trRow (l : List Cr) : crL l.length (trRow l) = l := by
  apply List.ext_getElem?
  intro i
  by_cases hi : i < l.length
  · simp [crL, trRow, hi, trSV, crOf, List.getD_eq_getElem?_getD]
  · simp at hi; simp [crL, hi]
theorem pvEta (x : PV) : ({ W := x.W, H := x.H, L := crL x.L.length (trRow x.L) } : PV) = x := by rw [crL_trRow]
def FLErrors : Fam := ⟨PV × Pt, fun (x, p) => [pvSV x, patSV p], fun (x, p) => x.ok ∧ ∀ c ∈ p.l, inK .u8 c.e, fun _ => .bool true⟩
theorem FLErrors_le : ∀ i, le2L (FLErrors.args i) (FLErrors.args i) := fun (x, p) => ⟨by simp [pvSV, SV.le2, SV.le1, le0L, SV.le0, capLe], by simp [patSV, SV.le2, SV.le1, le0L, SV.le0, capLe], trivial⟩
set_option maxHeartbeats 8000000 in
set_option maxRecDepth 100000 in
theorem wLErrors : ∀ i, FLErrors.pre i → wpC (EX lErrors [] (fun _ => false) none) Go.Proofs.Tryd.f7.ntmps (fun _ => none) (Go.Proofs.Tryd.f7.body.getD .skip) ⟨retP (EX lErrors [] (fun _ => false) none) Go.Proofs.Tryd.f7 (FLErrors.res i), fun _ _ => False, retP (EX lErrors [] (fun _ => false) none) Go.Proofs.Tryd.f7 (FLErrors.res i)⟩ ⟨initE 0 (FLErrors.args i), []⟩ := by
  rintro ⟨x, p⟩ hp
  replace hp : x.ok ∧ ∀ c ∈ p.l, inK .u8 c.e := hp
  obtain ⟨hx, hp1⟩ := hp
  obtain ⟨q1, q2, q3⟩ := ofP_ok hx
  have hq : ∀ c ∈ (ofP x).l, inK .u8 c.e := fun c hc => (goodC_k (q2 c hc)).1
  repeat (any_goals (first
    | (with_reducible refine And.intro (Ask.mk ?_) ?_
       first | exact trivial | exact fun _ => trivial)
    | with_reducible refine And.intro ?_ ?_
    | with_reducible refine Br.mk (fun h => ?_) (fun h => ?_)
    | with_reducible exact True.intro
    | (with_reducible refine Late.mk ?_
       exact rfl)
    | (fail_if_success with_reducible apply stopA
       fail_if_success with_reducible apply stopE
       fail_if_success with_reducible apply stopF
       fail_if_success with_reducible apply Exists.intro
       fail_if_success with_reducible intro _
       fail_if_success with_reducible apply stopK
       fail_if_success with_reducible apply stopL
       conv => whnf)))
  all_goals (try with_reducible refine Ask.mk ?_)
  all_goals (try first | exact trivial | exact fun _ => trivial)
  all_goals (try dsimp only)
  all_goals (try simp only [ptEta, pvEta] at *)
  all_goals (try simp only [decide_eq_false_iff_not] at *)
  all_goals (have hpc : ∀ c ∈ crL p.l.length (rowOf p.l), inK .u8 c.e := by rw [crL_rowOf]; exact hp1)
  all_goals (have hqc : ∀ c ∈ crL (ofP x).l.length (rowOf (ofP x).l), inK .u8 c.e := by rw [crL_rowOf]; exact hq)
  · exact ⟨⟨isCr_rowOf _, by omega⟩, hpc⟩
  · exact ⟨fun _ _ => rfl, hx⟩
  all_goals (have e1 : imgsE p = [] := by rw [imgsE, if_neg h])
  all_goals (have e2 : leastP p = dP := by rw [leastP, if_neg h])
  all_goals (have e3 : symN p = 0 := by rw [symN, e1]; rfl)
  all_goals (have e4 : alikeE p (ofP x) = patErr p := by rw [alikeE, if_neg h])
  all_goals (have e5 : alikeE (ofP x) p = patErr p := by rw [alikeE, if_pos q1])
  all_goals (have e6 : alikeB p (ofP x) = false := by rw [alikeB, if_neg h])
  all_goals (have e7 : alikeB (ofP x) p = false := by rw [alikeB, if_pos q1, if_neg h])
  · exact ⟨⟨isCr_rowOf _, by omega⟩, hpc⟩
  · exact ⟨⟨isCr_rowOf _, by omega⟩, hpc⟩
  · exact ⟨⟨isCr_rowOf _, by omega⟩, hpc⟩
  · exact ⟨⟨⟨isCr_rowOf _, by omega⟩, hpc⟩, ⟨isCr_rowOf _, by omega⟩, hqc⟩
  · exact ⟨⟨⟨isCr_rowOf _, by omega⟩, hqc⟩, ⟨isCr_rowOf _, by omega⟩, hpc⟩
  · intro _
    rw [e1, e2]
    simp [inK, dP]
  · rw [e1, e2, e3, e4, e5, e6, e7]
    simp [dP]

end Go.Proofs.YthfkpmobmnfgcaaDoor.V

/-
  FormsImages: its call returns true, whatever the input. Conditions: none.
-/
namespace Go.Proofs.YthfkpmobmnfgcaaDoor.V
open Go

def chkId : Bool := sh3.all fun s => (cells3 s.1 s.2).all fun a => ([0, 1, 2] : List Int).all fun e => !goodU s.1 s.2 a e || (decide (imLo s.1 s.2 0 a (neVal s.1 s.2 a e) = a) && decide (imHi s.1 s.2 0 a (neVal s.1 s.2 a e) = neVal s.1 s.2 a e) && decide (edgeF s.1 s.2 a (neVal s.1 s.2 a e) = e))
theorem chkId_ok : chkId = true := by decide +kernel
theorem img_id {W H : Int} (hs : isSh W H) {c : Cr} (h : goodC W H c) : imgCr W H 0 c = c := by
  obtain ⟨g, _, _⟩ := h
  obtain ⟨g1, g2, g3, g4⟩ := goodU_spec g
  obtain ⟨c1, c2, _, _⟩ := goodU_cell g
  have := List.all_eq_true.1 (List.all_eq_true.1 (List.all_eq_true.1 chkId_ok _ (sh3_mem hs)) c.c (cells3_mem c1 c2)) c.e (e3_mem g3 g4)
  simp only [g, Bool.not_true, Bool.false_or, Bool.and_eq_true, decide_eq_true_eq] at this
  obtain ⟨⟨h1, h2⟩, h3⟩ := this
  rw [imgCr_eq, h1, h2, h3, if_neg (by omega)]
theorem sortCr_idem (l : List Cr) : sortCr (sortCr l) = sortCr l := sortCr_unique ((sortCr_perm _).trans (sortCr_perm _)) (sortCr_sorted _)
theorem ofP_good {x : PV} (h : x.ok) : goodP (ofP x) := ⟨x.sh h, (ofP_ok h).2.1, unitsOK_perm (x.units x.cnt) (sortCr_perm _)⟩
theorem und_id {p : Pt} (hp : goodP p) (hs : sortCr p.l = p.l) : undF p 0 = p := by
  have : p.l.map (imgCr p.W p.H 0) = p.l := by
    conv => rhs; rw [← List.map_id p.l]
    exact List.map_congr_left fun c hc => img_id hp.1 (hp.2.1 c hc)
  unfold undF
  rw [this, hs]
theorem imgsTo_app (p : Pt) (i : Nat) : ∀ j, ∃ r, imgsTo p (i + j) = imgsTo p i ++ r
  | 0 => ⟨[], by simp⟩
  | j + 1 => by
    obtain ⟨r, hr⟩ := imgsTo_app p i j
    by_cases h : (i + j) % 2 = 0 ∨ p.W = p.H
    · exact ⟨r ++ [undF p (i + j : Nat)], by rw [← Nat.add_assoc, imgsTo_yes h, hr, List.append_assoc]⟩
    · exact ⟨r, by rw [← Nat.add_assoc, imgsTo_no h, hr]⟩
theorem imgs_at {p : Pt} {i : Nat} (hi : i < 8) (h : i % 2 = 0 ∨ p.W = p.H) : (imgsTo p i).length < (imgs p).length ∧ (imgs p).getD (imgsTo p i).length dP = undF p i := by
  obtain ⟨r, hr⟩ := imgsTo_app p (i + 1) (8 - (i + 1))
  rw [show i + 1 + (8 - (i + 1)) = 8 by omega, imgsTo_yes h] at hr
  have : imgs p = imgsTo p i ++ [undF p i] ++ r := hr
  rw [this]
  refine ⟨by simp, ?_⟩
  simp [List.getD_eq_getElem?_getD]
theorem lu_pre {x : PV} (hx : x.ok) {t : Int} (ht : okT (ofP x) t) : luPre (ofP x) t := by
  obtain ⟨h1, h2, h3⟩ := ofP_ok hx
  obtain ⟨s1, s2, s3, s4⟩ := x.sh hx
  refine ⟨s1, s2, s3, s4, ht.1, ht.2.1, by omega, fun c hc => ?_, luAll_units (ofP_good hx) ht⟩
  obtain ⟨g, k1, k2⟩ := h2 c hc
  obtain ⟨c1, c2, _, _⟩ := goodU_cell g
  have := x.n_pos hx
  unfold PV.n at this
  exact ⟨c1, by omega, k1, k2⟩
theorem lu_pt {x : PV} (hx : x.ok) {t : Int} (ht : okT (ofP x) t) : ({ W := (ofP x).W, H := (ofP x).H, l := crL (luAll (ofP x) t).length (rowOf (sortCr (luAll (ofP x) t))) } : Pt) = undF (ofP x) t := by
  rw [← sortCr_length, crL_rowOf, lu_eq (ofP_good hx) ht]
  rfl

def lImages : List (FuncId × Kon) := [(nLives, kLives), (nOf, kOf), (nImages, kImages), (nSame, kSame), (nLawUnder, kLawUnder)]
theorem lImages_ok : ∀ x ∈ lImages, PS x.1 x.2 := by simpa [lImages] using ⟨pLives, pOf, pImages, pSame, pLawUnder⟩
def FLImages : Fam := ⟨PV, fun x => [pvSV x], fun x => x.ok, fun _ => .bool true⟩
theorem FLImages_le : ∀ i, le2L (FLImages.args i) (FLImages.args i) := fun (x : PV) => ⟨by simp [pvSV, SV.le2, SV.le1, le0L, SV.le0, capLe], trivial⟩
def ILImages (x : PV) : Nat → Option Inv
  | 5 => some { β := Nat, ok := fun i => i ≤ 8, st := fun i => ⟨[⟨7, none, .int .i64 i⟩, ⟨6, none, .int .i64 (imgsTo (ofP x) i).length⟩, ⟨5, none, .int .i64 0⟩, ⟨4, none, .sl 3 (imgs (ofP x)).length (pRows (imgs (ofP x))) (some (imgs (ofP x)).length)⟩, ⟨3, none, .own 1 0⟩, ⟨2, none, .bool false⟩], [.cells 24 [.int .u8 x.W, .int .u8 x.H, .sl 3 x.L.length (trRow x.L) none], .cells 29 [.int .i64 (ofP x).W, .int .i64 (ofP x).H, .sl 3 (ofP x).l.length (rowOf (ofP x).l) none]]⟩, μ := fun i => 8 - i }
  | _ => none
set_option maxHeartbeats 8000000 in
set_option maxRecDepth 100000 in
theorem wLImages : ∀ i, FLImages.pre i → wpC (EX lImages [] (fun _ => false) none) Go.Proofs.Tryd.f3.ntmps (ILImages i) (Go.Proofs.Tryd.f3.body.getD .skip) ⟨retP (EX lImages [] (fun _ => false) none) Go.Proofs.Tryd.f3 (FLImages.res i), fun _ _ => False, retP (EX lImages [] (fun _ => false) none) Go.Proofs.Tryd.f3 (FLImages.res i)⟩ ⟨initE 0 (FLImages.args i), []⟩ := by
  intro (x : PV) hp
  replace hx : x.ok := hp
  obtain ⟨q1, q2, q3⟩ := ofP_ok hx
  have hq : ∀ c ∈ crL (ofP x).l.length (rowOf (ofP x).l), inK .u8 c.e := by rw [crL_rowOf]; exact fun c hc => (goodC_k (q2 c hc)).1
  have hE : imgsE (ofP x) = imgs (ofP x) := by rw [imgsE, if_pos q1]
  have hl8 : (imgs (ofP x)).length ≤ 8 := imgsTo_le (ofP x) 8
  have hl1 := imgs_pos (ofP x)
  have hlu : ∀ q ∈ imgs (ofP x), q.l.length ≤ 30 := fun q hq => by rw [imgs_length _ hq]; exact q3
  repeat (any_goals (first
    | (with_reducible refine And.intro (Ask.mk ?_) ?_
       first | exact trivial | exact fun _ => trivial)
    | with_reducible refine And.intro ?_ ?_
    | with_reducible refine Br.mk (fun h => ?_) (fun h => ?_)
    | with_reducible exact True.intro
    | (with_reducible refine Late.mk ?_
       exact rfl)
    | (fail_if_success with_reducible apply stopA
       fail_if_success with_reducible apply stopE
       fail_if_success with_reducible apply stopF
       fail_if_success with_reducible apply Exists.intro
       fail_if_success with_reducible intro _
       fail_if_success with_reducible apply stopK
       fail_if_success with_reducible apply stopL
       conv => whnf)))
  all_goals (try with_reducible refine Ask.mk ?_)
  all_goals (try first | exact trivial | exact fun _ => trivial)
  all_goals (try dsimp only)
  all_goals (try simp only [ptEta, pvEta] at *)
  · exact ⟨fun _ _ => rfl, hx⟩
  · exact ⟨⟨isCr_rowOf _, by omega⟩, hq⟩
  refine ⟨(0 : Nat), by omega, ?_, ?_⟩
  · repeat (any_goals (first
      | (with_reducible refine And.intro (Ask.mk ?_) ?_
         first | exact trivial | exact fun _ => trivial)
      | with_reducible refine And.intro ?_ ?_
      | with_reducible refine Br.mk (fun h => ?_) (fun h => ?_)
      | with_reducible exact True.intro
      | (with_reducible refine Late.mk ?_
         exact rfl)
      | (fail_if_success with_reducible apply stopA
         fail_if_success with_reducible apply stopE
         fail_if_success with_reducible apply stopF
         fail_if_success with_reducible apply Exists.intro
         fail_if_success with_reducible intro _
         fail_if_success with_reducible apply stopK
         fail_if_success with_reducible apply stopL
         conv => whnf)))
    all_goals (try with_reducible refine Ask.mk ?_)
    all_goals (try first | exact trivial | exact fun _ => trivial)
    all_goals (try dsimp only)
    all_goals (try simp only [ptEta, pvEta, hE])
    all_goals first | rfl | exact fun _ _ => rfl | exact fun _ _ => trivial | skip
    exact q1
  intro i hi
  replace hi : i ≤ 8 := hi
  have hm : (↑i : Int).tmod 2 = (i : Int) % 2 := Int.tmod_eq_emod_of_nonneg (by omega)
  have hli := imgsTo_le (ofP x) i
  have br : (decide ((i : Int) % 2 = 1) && !decide ((ofP x).W = (ofP x).H)) = false → i % 2 = 0 ∨ (ofP x).W = (ofP x).H := by
    intro h
    simp at h
    omega
  have key : decide ((i : Int) < 8) = true → i % 2 = 0 ∨ (ofP x).W = (ofP x).H → (imgsTo (ofP x) i).length < (imgs (ofP x)).length ∧ (imgs (ofP x)).getD ((imgsTo (ofP x) i).length : Int).toNat dP = undF (ofP x) i ∧ okT (ofP x) i ∧ luPre (ofP x) i ∧ (luAll (ofP x) i).length ≤ 100000 := by
    intro h1 h2
    replace h1 : i < 8 := by have := of_decide_eq_true h1; omega
    have ht : okT (ofP x) i := ⟨by omega, by omega, by omega⟩
    refine ⟨(imgs_at h1 h2).1, (imgs_at h1 h2).2, ht, lu_pre hx ht, ?_⟩
    rw [← sortCr_length, lu_eq (ofP_good hx) ht, undF_length]; omega
  repeat (any_goals (first
    | (with_reducible refine And.intro (Ask.mk ?_) ?_
       first | exact trivial | exact fun _ => trivial)
    | with_reducible refine And.intro ?_ ?_
    | with_reducible refine Br.mk (fun h => ?_) (fun h => ?_)
    | with_reducible exact True.intro
    | (with_reducible refine Late.mk ?_
       exact rfl)
    | (fail_if_success with_reducible apply stopA
       fail_if_success with_reducible apply stopE
       fail_if_success with_reducible apply stopF
       fail_if_success with_reducible apply Exists.intro
       fail_if_success with_reducible intro _
       fail_if_success with_reducible apply stopK
       fail_if_success with_reducible apply stopL
       conv => whnf)))
  all_goals (try with_reducible refine Ask.mk ?_)
  all_goals (try first | exact trivial | exact fun _ => trivial)
  all_goals (try dsimp only)
  all_goals (try simp only [ptEta, pvEta, hm] at *)
  all_goals (try (simp only [inK]; omega))
  · omega
  · rename_i h8
    simp at h8 h
    have e := imgsTo_no (p := ofP x) (i := i) (by omega)
    refine ⟨i + 1, by omega, by omega, ?_⟩
    rw [e]
    repeat (any_goals (first
      | (with_reducible refine And.intro (Ask.mk ?_) ?_
         first | exact trivial | exact fun _ => trivial)
      | with_reducible refine And.intro ?_ ?_
      | with_reducible refine Br.mk (fun h => ?_) (fun h => ?_)
      | with_reducible exact True.intro
      | (with_reducible refine Late.mk ?_
         exact rfl)
      | (fail_if_success with_reducible apply stopA
         fail_if_success with_reducible apply stopE
         fail_if_success with_reducible apply stopF
         fail_if_success with_reducible apply Exists.intro
         fail_if_success with_reducible intro _
         fail_if_success with_reducible apply stopK
         fail_if_success with_reducible apply stopL
         conv => whnf)))
    all_goals (try with_reducible refine Ask.mk ?_)
    all_goals (try first | exact trivial | exact fun _ => trivial)
    all_goals (try dsimp only)
    all_goals first | rfl | exact fun _ _ => rfl | exact fun _ _ => trivial | skip
  · rename_i h8
    have := key h8 (br h)
    exact fun _ => ⟨by omega, by omega⟩
  · rename_i h8
    have := key h8 (br h)
    exact fun _ => ⟨⟨isCr_rowOf _, by omega⟩, this.2.2.2.1⟩
  · rename_i h8
    have := key h8 (br h)
    refine fun _ => ⟨⟨isCr_rowOf _, ?_⟩, fun _ _ => rfl, this.2.2.2.2⟩
    rw [this.2.1, undF_length]; omega
  · rename_i h8
    have := key h8 (br h)
    exact fun _ => ⟨by omega, by omega⟩
  · rename_i h8
    have := key h8 (br h)
    exact fun _ => ⟨by omega, by omega⟩
  · rename_i h8 hb
    obtain ⟨k1, k2, k3, k4, k5⟩ := key h8 (br hb)
    rw [k2, lu_pt hx k3, sameP_self] at h
    simp at h
    omega
  · rename_i h8 hb
    have e := imgsTo_yes (p := ofP x) (i := i) (br hb)
    simp at h8
    refine ⟨i + 1, by omega, by omega, ?_⟩
    rw [e, List.length_append, List.length_singleton]
    repeat (any_goals (first
      | (with_reducible refine And.intro (Ask.mk ?_) ?_
         first | exact trivial | exact fun _ => trivial)
      | with_reducible refine And.intro ?_ ?_
      | with_reducible refine Br.mk (fun h => ?_) (fun h => ?_)
      | with_reducible exact True.intro
      | (with_reducible refine Late.mk ?_
         exact rfl)
      | (fail_if_success with_reducible apply stopA
         fail_if_success with_reducible apply stopE
         fail_if_success with_reducible apply stopF
         fail_if_success with_reducible apply Exists.intro
         fail_if_success with_reducible intro _
         fail_if_success with_reducible apply stopK
         fail_if_success with_reducible apply stopL
         conv => whnf)))
    all_goals (try with_reducible refine Ask.mk ?_)
    all_goals (try first | exact trivial | exact fun _ => trivial)
    all_goals (try dsimp only)
    all_goals first | rfl | exact fun _ _ => rfl | exact fun _ _ => trivial | skip
  · exact fun _ => ⟨by omega, by omega⟩
  · refine fun _ => ⟨⟨isCr_rowOf _, ?_⟩, isCr_rowOf _, by omega⟩
    exact Nat.le_trans (hlu _ (by rw [List.getD_eq_getElem?_getD, List.getElem?_eq_getElem (show Int.toNat 0 < _ from hl1)]; exact List.getElem_mem _)) (by omega)
  · simp at h
    have e : i = 8 := by omega
    subst e
    have h0 : (imgs (ofP x)).getD (Int.toNat 0) dP = ofP x := by
      have := (imgs_at (p := ofP x) (i := 0) (by omega) (Or.inl rfl)).2
      have h2 : (imgsTo (ofP x) 0).length = 0 := rfl
      rw [h2] at this
      exact this.trans (und_id (ofP_good hx) (sortCr_idem _))
    rw [h0, sameP_self]
    simp [imgs]

end Go.Proofs.YthfkpmobmnfgcaaDoor.V

/-
  FormsCompare: its call returns true, whatever the input. Conditions: none.
-/
namespace Go.Proofs.YthfkpmobmnfgcaaDoor.V
open Go

theorem lexI_cons (x y : Int) (l m : List Int) : lexI (x :: l) (y :: m) = if cmpI x y = 0 then lexI l m else cmpI x y := by
  simp only [lexI, cmpI]
  split
  · simp
  · split
    · simp
    · simp
theorem lexI_crs : ∀ l m : List Cr, lexI (l.flatMap crInts) (m.flatMap crInts) = cmpL l m
  | [], [] => rfl
  | [], _ :: _ => rfl
  | _ :: _, [] => rfl
  | x :: l, y :: m => by
    have ih := lexI_crs l m
    simp only [List.flatMap_cons, crInts, List.cons_append, List.nil_append, lexI_cons, cmpL, cmpC, or3] at *
    rw [ih]
    by_cases h1 : cmpI x.c y.c = 0 <;> by_cases h2 : cmpI x.e y.e = 0 <;> by_cases h3 : cmpI x.k y.k = 0 <;> simp [h1, h2, h3]
theorem lexI_pt (p q : Pt) : cmpP p q = lexI (ptInts p) (ptInts q) := by
  simp only [ptInts, lexI_cons, lexI_crs, cmpP, or3]
theorem lexI_anti : ∀ l m : List Int, lexI m l = - lexI l m
  | [], [] => rfl
  | [], _ :: _ => rfl
  | _ :: _, [] => rfl
  | x :: l, y :: m => by
    have ih := lexI_anti l m
    simp only [lexI]
    (repeat' split) <;> omega
theorem lexI_le : ∀ l m : List Int, -1 ≤ lexI l m ∧ lexI l m ≤ 1
  | [], [] => by simp [lexI]
  | [], _ :: _ => by simp [lexI]
  | _ :: _, [] => by simp [lexI]
  | x :: l, y :: m => by
    have ih := lexI_le l m
    simp only [lexI]
    split
    · omega
    · split <;> omega

theorem kinOK_take {p : Pt} (hp : kinOK p) {k : Int} (hk : k ≤ p.l.length) : kinOK ⟨p.W, p.H, crL (k - 0).toNat fun j => rowOf p.l (Int.toNat 0 + j)⟩ := by
  intro z hz
  simp only [crL, List.mem_map, List.mem_range] at hz
  obtain ⟨j, hj, rfl⟩ := hz
  have := hp (p.l.getD j d0) (memD (by omega))
  simpa [rowOf, crSV, crOf] using this
def FLCompare : Fam := ⟨Pt × Pt × Int, fun (p, q, c) => [patSV p, patSV q, .int .u8 c], fun (p, q, c) => kinOK p ∧ kinOK q ∧ inK .u8 c, fun _ => .bool true⟩
theorem le2_pat (p : Pt) : (patSV p).le2 (patSV p) := by simp [patSV, SV.le2, SV.le1, le0L, SV.le0, capLe]
set_option maxRecDepth 100000 in
theorem wLCompare : ∀ i, FLCompare.pre i → wpC (EX [(nLives, kLives), (nLawOrder, kLawOrder), (nPCompare, kPCompare)] [] (fun _ => false) none) Go.Proofs.Tryd.f5.ntmps (fun _ => none) (Go.Proofs.Tryd.f5.body.getD .skip) ⟨retP (EX [(nLives, kLives), (nLawOrder, kLawOrder), (nPCompare, kPCompare)] [] (fun _ => false) none) Go.Proofs.Tryd.f5 (FLCompare.res i), fun _ _ => False, retP (EX [(nLives, kLives), (nLawOrder, kLawOrder), (nPCompare, kPCompare)] [] (fun _ => false) none) Go.Proofs.Tryd.f5 (FLCompare.res i)⟩ ⟨initE 0 (FLCompare.args i), []⟩ := by
  rintro ⟨p, q, c⟩ hp
  replace hp : kinOK p ∧ kinOK q ∧ inK .u8 c := hp
  obtain ⟨hp1, hq1, hc⟩ := hp
  have hc' : 0 ≤ c ∧ c ≤ 255 := hc
  repeat (any_goals (first
    | (with_reducible refine And.intro (Ask.mk ?_) ?_
       first | exact trivial | exact fun _ => trivial)
    | with_reducible refine And.intro ?_ ?_
    | with_reducible refine Br.mk (fun h => ?_) (fun h => ?_)
    | with_reducible exact True.intro
    | (with_reducible refine Late.mk ?_
       exact rfl)
    | (fail_if_success with_reducible apply stopA
       fail_if_success with_reducible apply stopE
       fail_if_success with_reducible apply stopF
       fail_if_success with_reducible apply Exists.intro
       fail_if_success with_reducible intro _
       fail_if_success with_reducible apply stopK
       fail_if_success with_reducible apply stopL
       conv => whnf)))
  all_goals (try with_reducible refine Ask.mk ?_)
  all_goals (try first | exact trivial | exact fun _ => trivial)
  all_goals (try dsimp only)
  all_goals (try simp only [ptEta])
  all_goals (try simp only [Bool.or_eq_false_iff, decide_eq_false_iff_not, decide_eq_true_eq] at *)
  all_goals (have m1 : c.tdiv 2 = c / 2 := Int.tdiv_eq_ediv_of_nonneg (by omega))
  all_goals (have m2 : (c / 2).tmod (↑p.l.length + 1) = (c / 2) % (↑p.l.length + 1) := Int.tmod_eq_emod_of_nonneg (by omega))
  all_goals (try simp only [m1, m2])
  all_goals (try omega)
  all_goals (try (simp only [inK]; omega))
  all_goals (have m3 : 0 ≤ (c / 2) % (↑p.l.length + 1) := Int.emod_nonneg _ (by omega))
  all_goals (have m4 : (c / 2) % (↑p.l.length + 1) < ↑p.l.length + 1 := Int.emod_lt_of_pos _ (by omega))
  all_goals (have a1 := lexI_le (ptInts p) (ptInts q))
  all_goals (have hL : (crL ((c / 2) % (↑p.l.length + 1) - 0).toNat fun j => rowOf p.l (Int.toNat 0 + j)).length ≤ p.l.length := by rw [crL_length]; omega)
  all_goals (have hK := kinOK_take hp1 (k := (c / 2) % (↑p.l.length + 1)) (by omega))
  all_goals (have a2 := lexI_le (ptInts p) (ptInts ⟨p.W, p.H, crL ((c / 2) % (↑p.l.length + 1) - 0).toNat fun j => rowOf p.l (Int.toNat 0 + j)⟩))
  · exact ⟨rfl, by omega, m3, by omega⟩
  · exact ⟨⟨⟨isCr_rowOf _, by omega⟩, hp1⟩, ⟨fun _ _ => rfl, by omega⟩, hK⟩
  · exact ⟨⟨isCr_rowOf _, by omega⟩, fun _ _ => rfl, by omega⟩
  · exact fun _ => ⟨⟨fun _ _ => rfl, by omega⟩, isCr_rowOf _, by omega⟩
  · exact fun _ => by simp only [inK]; omega
  · rw [lexI_pt, lexI_pt, lexI_anti]
    simp
  · exact ⟨⟨⟨isCr_rowOf _, by omega⟩, hp1⟩, ⟨isCr_rowOf _, by omega⟩, hq1⟩
  · exact ⟨⟨isCr_rowOf _, by omega⟩, isCr_rowOf _, by omega⟩
  · exact fun _ => ⟨⟨isCr_rowOf _, by omega⟩, isCr_rowOf _, by omega⟩
  · exact fun _ => by simp only [inK]; omega
  · rw [lexI_pt, lexI_pt, lexI_anti (ptInts p) (ptInts q)]
    simp

theorem FLCompare_le : ∀ i, le2L (FLCompare.args i) (FLCompare.args i) := fun (p, q, c) => ⟨le2_pat p, le2_pat q, by simp [SV.le2, SV.le1, SV.le0], trivial⟩

end Go.Proofs.YthfkpmobmnfgcaaDoor.V

/-
  The eight turns are a group, and images keep to it: plain law. Conditions: none.
-/
namespace Go.Proofs.YthfkpmobmnfgcaaDoor.V
open Go

def comp (t u : Nat) : Nat := if u < 4 then (t / 4) * 4 + (t % 4 + u % 4) % 4 else (1 - t / 4) * 4 + (u % 4 + 4 - t % 4) % 4
def invT (t : Nat) : Nat := if t < 4 then (4 - t) % 4 else t
def conjT (t u : Nat) : Nat := comp (comp t u) (invT t)
theorem comp_facts : ∀ t < 8, ∀ u < 8, comp t u < 8 ∧ (comp t u > 3 ↔ ¬ (t > 3 ↔ u > 3)) ∧ (t % 2 = 0 → u % 2 = 0 → comp t u % 2 = 0) ∧ comp (conjT t u) t = comp t u := by decide +kernel
theorem inv_facts : ∀ t < 8, invT t < 8 ∧ (t % 2 = 0 → invT t % 2 = 0) ∧ comp t (invT t) = 0 ∧ comp t 0 = t ∧ comp 0 t = t := by decide +kernel
def chkC : Bool := sh3.all fun s => (cells3 s.1 s.2).all fun a => (List.range 8).all fun (t : Nat) => (List.range 8).all fun (u : Nat) =>
  (decide (s.1 ≠ s.2) && (decide (t % 2 = 1) || decide (u % 2 = 1))) || decide (imF s.1 s.2 u (imF s.1 s.2 t a) = imF s.1 s.2 (comp t u : Nat) a)
theorem chkC_ok : chkC = true := by decide +kernel

def okN (p : Pt) (t : Nat) : Prop := t < 8 ∧ (t % 2 = 0 ∨ p.W = p.H)
theorem okN_T {p : Pt} {t : Nat} (h : okN p t) : okT p t := ⟨by omega, by have := h.1; omega, h.2.imp (fun h => by omega) id⟩
theorem okN_comp {p : Pt} {t u : Nat} (ht : okN p t) (hu : okN p u) : okN p (comp t u) := by
  have := comp_facts t ht.1 u hu.1
  refine ⟨this.1, ?_⟩
  rcases ht.2 with h | h
  · rcases hu.2 with k | k
    · exact .inl (this.2.2.1 h k)
    · exact .inr k
  · exact .inr h
theorem okN_inv {p : Pt} {t : Nat} (ht : okN p t) : okN p (invT t) := by
  have := inv_facts t ht.1
  refine ⟨this.1, ?_⟩
  rcases ht.2 with h | h
  · exact .inl (this.2.1 h)
  · exact .inr h
theorem okN_zero (p : Pt) : okN p 0 := ⟨by omega, .inl rfl⟩
theorem imF_comp {p : Pt} (hs : isSh p.W p.H) {t u : Nat} (ht : okN p t) (hu : okN p u) {a : Int} (h0 : 0 ≤ a) (h1 : a < 4 * p.W * p.H) : imF p.W p.H u (imF p.W p.H t a) = imF p.W p.H (comp t u : Nat) a := by
  have := List.all_eq_true.1 (List.all_eq_true.1 (List.all_eq_true.1 (List.all_eq_true.1 chkC_ok _ (sh3_mem hs)) a (cells3_mem h0 h1)) t (List.mem_range.2 ht.1)) u (List.mem_range.2 hu.1)
  simp only [Bool.or_eq_true, Bool.and_eq_true, decide_eq_true_eq] at this
  rcases this with ⟨h2, h3⟩ | h
  · exfalso
    rcases ht.2 with h | h
    · rcases hu.2 with k | k
      · omega
      · exact h2 k
    · exact h2 h
  · exact h
theorem lohi (W H t x y : Int) : imLo W H t (min x y) (max x y) = imLo W H t x y ∧ imHi W H t (min x y) (max x y) = imHi W H t x y := by
  unfold imLo imHi
  rcases Int.le_total x y with h | h
  · rw [Int.min_eq_left h, Int.max_eq_right h]; exact ⟨rfl, rfl⟩
  · rw [Int.min_eq_right h, Int.max_eq_left h, Int.min_comm, Int.max_comm]; exact ⟨rfl, rfl⟩
theorem goodC_img {p : Pt} (hs : isSh p.W p.H) {t : Int} (ht : okT p t) {c : Cr} (hc : goodC p.W p.H c) : goodC p.W p.H (imgCr p.W p.H t c) := by
  obtain ⟨g, k1, k2⟩ := hc
  have m := (unit_facts hs g).2.2.2 t ht.1 ht.2.1 ht.2.2
  simp only [chkU2, Bool.and_eq_true, decide_eq_true_eq] at m
  rw [imgCr_eq]
  refine ⟨m.1.2, ?_, ?_⟩ <;> (simp only; split <;> omega)
theorem img_comp {p : Pt} (hs : isSh p.W p.H) {t u : Nat} (ht : okN p t) (hu : okN p u) {c : Cr} (hc : goodC p.W p.H c) : imgCr p.W p.H u (imgCr p.W p.H t c) = imgCr p.W p.H (comp t u : Nat) c := by
  obtain ⟨g, k1, k2⟩ := hc
  have m := (unit_facts hs g).2.2.2 t (okN_T ht).1 (okN_T ht).2.1 (okN_T ht).2.2
  simp only [chkU2, Bool.and_eq_true, decide_eq_true_eq] at m
  obtain ⟨c1, c2, c3, c4⟩ := goodU_cell g
  have e1 := imF_comp hs ht hu c1 c2
  have e2 := imF_comp hs ht hu c3 c4
  have f := (comp_facts t ht.1 u hu.1).2.1
  rw [imgCr_eq (t := t), imgCr_eq (t := u), imgCr_eq]
  simp only [m.2]
  have l := lohi p.W p.H u (imF p.W p.H t c.c) (imF p.W p.H t (neVal p.W p.H c.c c.e))
  change imLo p.W p.H u (imLo p.W p.H t c.c (neVal p.W p.H c.c c.e)) (imHi p.W p.H t c.c (neVal p.W p.H c.c c.e)) = _ ∧ imHi p.W p.H u (imLo p.W p.H t c.c (neVal p.W p.H c.c c.e)) (imHi p.W p.H t c.c (neVal p.W p.H c.c c.e)) = _ at l
  have q1 : imLo p.W p.H u (imF p.W p.H t c.c) (imF p.W p.H t (neVal p.W p.H c.c c.e)) = imLo p.W p.H (comp t u : Nat) c.c (neVal p.W p.H c.c c.e) := by unfold imLo; rw [e1, e2]
  have q2 : imHi p.W p.H u (imF p.W p.H t c.c) (imF p.W p.H t (neVal p.W p.H c.c c.e)) = imHi p.W p.H (comp t u : Nat) c.c (neVal p.W p.H c.c c.e) := by unfold imHi; rw [e1, e2]
  rw [l.1, l.2, q1, q2]
  congr 1
  by_cases a1 : t > 3 <;> by_cases a2 : u > 3 <;> by_cases a3 : comp t u > 3 <;> by_cases a4 : c.k = 3
  all_goals (first | (exfalso; simp [a1, a2, a3] at f; done) | skip)
  all_goals (repeat' split) <;> omega
theorem sortCr_congr {l m : List Cr} (h : l.Perm m) : sortCr l = sortCr m := sortCr_unique ((sortCr_perm l).trans h) (sortCr_sorted l)
theorem und_und {p : Pt} (hp : goodP p) {t u : Nat} (ht : okN p t) (hu : okN p u) : undF (undF p t) u = undF p (comp t u : Nat) := by
  have : sortCr ((undF p t).l.map (imgCr p.W p.H u)) = sortCr (p.l.map (imgCr p.W p.H (comp t u : Nat))) := by
    have h1 : ((undF p t).l.map (imgCr p.W p.H u)).Perm ((p.l.map (imgCr p.W p.H t)).map (imgCr p.W p.H u)) := (sortCr_perm _).map _
    rw [sortCr_congr h1, List.map_map]
    congr 1
    exact List.map_congr_left fun c hc => img_comp hp.1 ht hu (hp.2.1 c hc)
  unfold undF at *
  simp only at *
  rw [this]
theorem goodP_und {p : Pt} (hp : goodP p) {t : Int} (ht : okT p t) : goodP (undF p t) := by
  refine ⟨hp.1, fun c hc => ?_, unitsOK_perm (imgs_units hp ht) (sortCr_perm _)⟩
  obtain ⟨d, hd, rfl⟩ := List.mem_map.1 ((sortCr_perm _).mem_iff.1 hc)
  exact goodC_img hp.1 ht (hp.2.1 d hd)
def srt (p : Pt) : Prop := sortCr p.l = p.l
theorem srt_und (p : Pt) (t : Int) : srt (undF p t) := sortCr_idem _
theorem patErr_ok {p : Pt} (hp : goodP p) (hs : srt p) : patErr p = 0 := by
  have := (patErr_good hp.1 hp.2.1 hp.2.2).1
  rw [hs] at this
  exact this
theorem und_inv {p : Pt} (hp : goodP p) (hs : srt p) {t : Nat} (ht : okN p t) : undF (undF p t) (invT t : Nat) = p := by
  rw [und_und hp ht (okN_inv ht), (inv_facts t ht.1).2.2.1]
  exact und_id hp hs
theorem mem_turns (p : Pt) (t : Nat) : t ∈ turnsTo (decide (p.W = p.H)) 8 ↔ okN p t := by
  simp [turnsTo, okN]
theorem mem_imgs (p q : Pt) : q ∈ imgs p ↔ ∃ t, okN p t ∧ q = undF p (t : Nat) := by
  unfold imgs imgsTo
  simp only [List.mem_map, mem_turns]
  exact ⟨fun ⟨t, h1, h2⟩ => ⟨t, h1, h2.symm⟩, fun ⟨t, h1, h2⟩ => ⟨t, h1, h2.symm⟩⟩
theorem imgs_same {p : Pt} (hp : goodP p) (hs : srt p) {t : Nat} (ht : okN p t) (q : Pt) : q ∈ imgs (undF p t) ↔ q ∈ imgs p := by
  rw [mem_imgs, mem_imgs]
  constructor
  · rintro ⟨u, hu, rfl⟩
    exact ⟨comp t u, okN_comp ht hu, und_und hp ht hu⟩
  · rintro ⟨u, hu, rfl⟩
    refine ⟨comp (invT t) u, okN_comp (p := p) (okN_inv ht) hu, ?_⟩
    have e := und_und (goodP_und hp (okN_T ht)) (t := invT t) (u := u) (okN_inv ht) hu
    rw [und_inv hp hs ht] at e
    exact e

theorem cmpI_eq {x y : Int} (h : cmpI x y = 0) : x = y := by unfold cmpI at h; (repeat' split at h) <;> omega
theorem or3_eq {x y z : Int} (h : or3 x y z = 0) : x = 0 ∧ y = 0 ∧ z = 0 := by unfold or3 at h; (repeat' split at h) <;> omega
theorem cmpL_eq : ∀ {l m : List Cr}, cmpL l m = 0 → l = m
  | [], [], _ => rfl
  | [], _ :: _, h => by simp [cmpL] at h
  | _ :: _, [], h => by simp [cmpL] at h
  | x :: l, y :: m, h => by
    unfold cmpL at h
    by_cases hc : cmpC x y = 0
    · obtain ⟨h1, h2, h3⟩ := or3_eq hc
      have e : x = y := by
        cases x; cases y
        simp only [Cr.mk.injEq]
        exact ⟨cmpI_eq h1, cmpI_eq h2, cmpI_eq h3⟩
      simp [hc] at h
      rw [e, cmpL_eq h]
    · simp [hc] at h
theorem cmpP_eq {p q : Pt} (h : cmpP p q = 0) : p = q := by
  obtain ⟨h1, h2, h3⟩ := or3_eq h
  cases p; cases q
  simp only [Pt.mk.injEq]
  exact ⟨cmpI_eq h1, cmpI_eq h2, cmpL_eq h3⟩
theorem lexI_trans : ∀ {l m k : List Int}, lexI l m ≤ 0 → lexI m k ≤ 0 → lexI l k ≤ 0
  | [], _, [], _, _ => by simp [lexI]
  | [], _, _ :: _, _, _ => by simp [lexI]
  | _ :: _, [], _, h, _ => by simp [lexI] at h
  | _ :: _, _ :: _, [], _, h => by simp [lexI] at h
  | x :: l, y :: m, z :: k, h1, h2 => by
    have ih := @lexI_trans l m k
    simp only [lexI] at *
    (repeat' split at h1) <;> (repeat' split at h2) <;> (repeat' split) <;> first | omega | (exact ih h1 h2)
theorem cmpP_anti (p q : Pt) : cmpP q p = - cmpP p q := by rw [lexI_pt, lexI_pt, lexI_anti]
theorem cmpP_trans {p q r : Pt} (h1 : cmpP p q ≤ 0) (h2 : cmpP q r ≤ 0) : cmpP p r ≤ 0 := by
  rw [lexI_pt] at *
  exact lexI_trans h1 h2
theorem cmpP_refl (p : Pt) : cmpP p p = 0 := by have := cmpP_anti p p; omega
theorem minP_le {l : List Pt} {q : Pt} (hq : q ∈ l) : cmpP (minP l) q ≤ 0 := by
  have key : ∀ (r : List Pt) (x : Pt), cmpP (r.foldl (fun m q => if cmpP q m < 0 then q else m) x) x ≤ 0 ∧ ∀ q ∈ r, cmpP (r.foldl (fun m q => if cmpP q m < 0 then q else m) x) q ≤ 0 := by
    intro r
    induction r with
    | nil => intro x; exact ⟨by simp [cmpP_refl], fun q hq => by cases hq⟩
    | cons y r ih =>
      intro x
      simp only [List.foldl_cons]
      have e : cmpP (if cmpP y x < 0 then y else x) x ≤ 0 ∧ cmpP (if cmpP y x < 0 then y else x) y ≤ 0 := by
        have := cmpP_anti y x
        split
        · exact ⟨by omega, by rw [cmpP_refl]; omega⟩
        · exact ⟨by rw [cmpP_refl]; omega, by omega⟩
      obtain ⟨i1, i2⟩ := ih (if cmpP y x < 0 then y else x)
      refine ⟨cmpP_trans i1 e.1, fun q hq => ?_⟩
      rcases List.mem_cons.1 hq with rfl | hq
      · exact cmpP_trans i1 e.2
      · exact i2 q hq
  match l, hq with
  | x :: r, hq =>
    rcases List.mem_cons.1 hq with rfl | hq
    · exact (key r q).1
    · exact (key r x).2 q hq
theorem minP_same {l m : List Pt} (hl : l ≠ []) (h : ∀ q, q ∈ l ↔ q ∈ m) : minP l = minP m := by
  have hm : m ≠ [] := by
    intro e
    have := (h _).1 (minP_mem hl)
    rw [e] at this
    cases this
  have h1 := minP_le ((h _).2 (minP_mem hm))
  have h2 := minP_le ((h _).1 (minP_mem hl))
  have := cmpP_anti (minP l) (minP m)
  exact cmpP_eq (by omega)
theorem imgs_ne (p : Pt) : imgs p ≠ [] := fun e => by have := imgs_pos p; rw [e] at this; simp at this
theorem least_und {p : Pt} (hp : goodP p) (hs : srt p) {t : Nat} (ht : okN p t) : leastP (undF p t) = leastP p := by
  rw [leastP, if_pos (patErr_ok (goodP_und hp (okN_T ht)) (srt_und _ _)), leastP, if_pos (patErr_ok hp hs)]
  exact minP_same (imgs_ne _) (imgs_same hp hs ht)
theorem least_mem {p : Pt} (hp : goodP p) (hs : srt p) : leastP p ∈ imgs p := by
  rw [leastP, if_pos (patErr_ok hp hs)]
  exact minP_mem (imgs_ne p)

def fixT (p : Pt) (t : Nat) : Bool := decide (p = undF p (t : Nat))
theorem symN_eq {p : Pt} (hp : goodP p) (hs : srt p) : symN p = ((turnsTo (decide (p.W = p.H)) 8).filter (fixT p)).length := by
  unfold symN imgsE
  rw [if_pos (patErr_ok hp hs)]
  unfold imgs imgsTo
  rw [List.filter_map, List.length_map]
  congr 2
  apply List.filter_congr
  intro t _
  simp [fixT, sameP_iff]
theorem conj_perm : ∀ sq : Bool, ∀ t < 8, ((turnsTo sq 8).map (conjT t)).isPerm (turnsTo sq 8) = true := by decide +kernel
theorem symN_und {p : Pt} (hp : goodP p) (hs : srt p) {t : Nat} (ht : okN p t) : symN (undF p t) = symN p := by
  rw [symN_eq (goodP_und hp (okN_T ht)) (srt_und _ _), symN_eq hp hs]
  have h1 : ((turnsTo (decide (p.W = p.H)) 8).filter (fixT (undF p t))) = ((turnsTo (decide (p.W = p.H)) 8).filter (fixT p ∘ conjT t)) := by
    apply List.filter_congr
    intro u hu
    have hu := (mem_turns p u).1 hu
    have hc := okN_comp ht hu
    have hj : okN p (conjT t u) := okN_comp hc (okN_inv ht)
    simp only [fixT, Function.comp, decide_eq_decide]
    rw [und_und hp ht hu]
    have e1 : undF p (conjT t u : Nat) = undF (undF p (comp t u : Nat)) (invT t : Nat) := (und_und hp hc (okN_inv ht)).symm
    have e2 : undF p (comp t u : Nat) = undF (undF p (conjT t u : Nat)) (t : Nat) := by rw [und_und hp hj ht, (comp_facts t ht.1 u hu.1).2.2.2]
    constructor
    · intro e
      rw [e1, ← e, und_inv hp hs ht]
    · intro e
      rw [e2, ← e]
  have h2 := List.isPerm_iff.1 (conj_perm (decide (p.W = p.H)) t ht.1)
  show (((turnsTo (decide (p.W = p.H)) 8).filter (fixT (undF p t))).length : Int) = _
  rw [h1]
  have h3 := (h2.filter (fixT p)).length_eq
  rw [List.filter_map, List.length_map] at h3
  rw [h3]

def masks : Nat → List (List Bool)
  | 0 => [[]]
  | n + 1 => (masks n).flatMap fun m => [false :: m, true :: m]
theorem masks_mem : ∀ m : List Bool, m ∈ masks m.length
  | [] => by simp [masks]
  | x :: m => by
    simp only [List.length_cons, masks, List.mem_flatMap]
    refine ⟨m, masks_mem m, ?_⟩
    cases x <;> simp
def chkD : Bool := [true, false].all fun sq => (masks 8).all fun m => !m.getD 0 false || !((turnsTo sq 8).all fun u => (turnsTo sq 8).all fun v => !(m.getD u false && m.getD v false) || m.getD (comp u v) false) || decide ((turnsTo sq 8).length % ((turnsTo sq 8).filter fun u => m.getD u false).length = 0)
theorem chkD_ok : chkD = true := by decide +kernel
theorem sym_div {p : Pt} (hp : goodP p) (hs : srt p) : 1 ≤ symN p ∧ ((imgs p).length : Int) % symN p = 0 := by
  have f0 : fixT p 0 = true := by
    simp only [fixT, decide_eq_true_eq]
    exact (und_id hp hs).symm
  have hmask : ∀ u, u < 8 → ((List.range 8).map (fixT p)).getD u false = fixT p u := by
    intro u hu
    simp [List.getD_eq_getElem?_getD, hu]
  have h := List.all_eq_true.1 (List.all_eq_true.1 chkD_ok (decide (p.W = p.H)) (by cases decide (p.W = p.H) <;> simp)) ((List.range 8).map (fixT p)) (by simpa using masks_mem ((List.range 8).map (fixT p)))
  have hcl : ((turnsTo (decide (p.W = p.H)) 8).all fun u => (turnsTo (decide (p.W = p.H)) 8).all fun v => !(((List.range 8).map (fixT p)).getD u false && ((List.range 8).map (fixT p)).getD v false) || ((List.range 8).map (fixT p)).getD (comp u v) false) = true := by
    refine List.all_eq_true.2 fun u hu => List.all_eq_true.2 fun v hv => ?_
    have hu := (mem_turns p u).1 hu
    have hv := (mem_turns p v).1 hv
    rw [hmask u hu.1, hmask v hv.1, hmask _ (okN_comp hu hv).1]
    by_cases a : fixT p u = true
    · by_cases b : fixT p v = true
      · simp only [a, b, Bool.and_self, Bool.not_true, Bool.false_or]
        simp only [fixT, decide_eq_true_eq] at a b ⊢
        rw [← und_und hp hu hv, ← a, ← b]
      · simp [b]
    · simp [a]
  rw [hmask 0 (by omega), f0, hcl] at h
  simp only [Bool.not_true, Bool.false_or, decide_eq_true_eq] at h
  have hf : ((turnsTo (decide (p.W = p.H)) 8).filter fun u => ((List.range 8).map (fixT p)).getD u false) = (turnsTo (decide (p.W = p.H)) 8).filter (fixT p) := by
    apply List.filter_congr
    intro u hu
    exact hmask u ((mem_turns p u).1 hu).1
  rw [hf] at h
  rw [symN_eq hp hs]
  have hl : (imgs p).length = (turnsTo (decide (p.W = p.H)) 8).length := by unfold imgs imgsTo; rw [List.length_map]
  have hm : 0 ∈ (turnsTo (decide (p.W = p.H)) 8).filter (fixT p) := List.mem_filter.2 ⟨(mem_turns p 0).2 (okN_zero p), f0⟩
  have := List.length_pos_of_mem hm
  rw [hl]
  exact ⟨by omega, by exact_mod_cast h⟩

end Go.Proofs.YthfkpmobmnfgcaaDoor.V

/-
  FormsLeast: its call returns true, whatever the input. Conditions: none.
-/
namespace Go.Proofs.YthfkpmobmnfgcaaDoor.V
open Go

theorem take_suc {l : List Pt} {i : Nat} (h : i < l.length) : l.take (i + 1) = l.take i ++ [l.getD i dP] := by
  rw [List.take_add_one]
  simp [List.getD_eq_getElem?_getD, h]
def fTo (p : Pt) (i : Nat) : Bool := ((imgs p).take i).any fun q => sameP q (leastP p)
def sTo (p : Pt) (i : Nat) : Nat := (((imgs p).take i).filter fun q => sameP q p).length
theorem fTo_succ {p : Pt} {i : Nat} (h : i < (imgs p).length) : fTo p (i + 1) = (fTo p i || sameP ((imgs p).getD i dP) (leastP p)) := by
  unfold fTo
  rw [take_suc h, List.any_append]
  simp
theorem sTo_succ {p : Pt} {i : Nat} (h : i < (imgs p).length) : sTo p (i + 1) = if sameP ((imgs p).getD i dP) p = true then sTo p i + 1 else sTo p i := by
  unfold sTo
  rw [take_suc h, List.filter_append]
  split
  · rename_i e
    rw [List.filter_cons, if_pos e]
    simp
  · rename_i e
    rw [List.filter_cons, if_neg e]
    simp
theorem sTo_le (p : Pt) (i : Nat) : sTo p i ≤ i := Nat.le_trans (List.length_filter_le _ _) (List.length_take_le _ _)
theorem sameP_comm (p q : Pt) : sameP p q = sameP q p := by
  rw [sameP_iff, sameP_iff, decide_eq_decide]
  exact eq_comm
theorem ofP_srt (x : PV) : srt (ofP x) := sortCr_idem _
theorem kin_good {p : Pt} (h : goodP p) : kinOK p := by
  intro c hc
  obtain ⟨g, k1, k2⟩ := h.2.1 c hc
  obtain ⟨_, _, e1, e2⟩ := goodU_spec g
  simp only [inK]
  omega
theorem imgs_facts {x : PV} (hx : x.ok) {q : Pt} (hq : q ∈ imgs (ofP x)) : q.l.length ≤ 100000 ∧ kinOK q ∧ (∀ c ∈ q.l, inK .u8 c.e) ∧ patErr q = 0 ∧ leastP q = leastP (ofP x) ∧ symN q = symN (ofP x) ∧ lexI (ptInts (leastP (ofP x))) (ptInts q) ≤ 0 := by
  have hg := ofP_good hx
  obtain ⟨t, ht, e⟩ := (mem_imgs _ q).1 hq
  have hl := imgs_length _ hq
  have h3 := (ofP_ok hx).2.2
  have gq : goodP q := by rw [e]; exact goodP_und hg (okN_T ht)
  have sq : srt q := by rw [e]; exact srt_und _ _
  refine ⟨by omega, kin_good gq, fun c hc => (kin_good gq c hc).1, patErr_ok gq sq, ?_, ?_, ?_⟩
  · rw [e]; exact least_und hg (ofP_srt x) ht
  · rw [e]; exact symN_und hg (ofP_srt x) ht
  · rw [← lexI_pt, leastP, if_pos (patErr_ok hg (ofP_srt x))]
    exact minP_le hq

def lLeast : List (FuncId × Kon) := [(nLives, kLives), (nOf, kOf), (nImages, kImages), (nLeast, kLeast), (nSymm, kSymm), (nSame, kSame), (nLawOrder, kLawOrder)]
theorem lLeast_ok : ∀ x ∈ lLeast, PS x.1 x.2 := by simpa [lLeast] using ⟨pLives, pOf, pImages, pLeast, pSymm, pSame, pLawOrder⟩
def FLLeast : Fam := ⟨PV, fun x => [pvSV x], fun x => x.ok, fun _ => .bool true⟩
theorem FLLeast_le : ∀ i, le2L (FLLeast.args i) (FLLeast.args i) := fun (x : PV) => ⟨by simp [pvSV, SV.le2, SV.le1, le0L, SV.le0, capLe], trivial⟩
def ILLeast (x : PV) : Nat → Option Inv
  | 9 => some { β := Nat, ok := fun i => i ≤ (imgs (ofP x)).length, st := fun i => ⟨[⟨12, none, .int .i64 i⟩, ⟨11, none, .int .i64 (sTo (ofP x) i)⟩, ⟨10, none, .bool (fTo (ofP x) i)⟩, ⟨8, none, .int .i64 (symN (ofP x))⟩, ⟨6, none, .own 2 0⟩, ⟨4, none, .sl 3 (imgs (ofP x)).length (pRows (imgs (ofP x))) (some (imgs (ofP x)).length)⟩, ⟨3, none, .own 1 0⟩, ⟨2, none, .bool false⟩], [.cells 24 [.int .u8 x.W, .int .u8 x.H, .sl 3 x.L.length (trRow x.L) none], .cells 29 [.int .i64 (ofP x).W, .int .i64 (ofP x).H, .sl 3 (ofP x).l.length (rowOf (ofP x).l) none], .cells 29 [.int .i64 (leastP (ofP x)).W, .int .i64 (leastP (ofP x)).H, .sl 3 (leastP (ofP x)).l.length (rowOf (leastP (ofP x)).l) (some (leastP (ofP x)).l.length)]]⟩, μ := fun i => (imgs (ofP x)).length - i }
  | _ => none
set_option maxHeartbeats 8000000 in
set_option maxRecDepth 100000 in
theorem wLLeast : ∀ i, FLLeast.pre i → wpC (EX lLeast [] (fun _ => false) none) Go.Proofs.Tryd.f4.ntmps (ILLeast i) (Go.Proofs.Tryd.f4.body.getD .skip) ⟨retP (EX lLeast [] (fun _ => false) none) Go.Proofs.Tryd.f4 (FLLeast.res i), fun _ _ => False, retP (EX lLeast [] (fun _ => false) none) Go.Proofs.Tryd.f4 (FLLeast.res i)⟩ ⟨initE 0 (FLLeast.args i), []⟩ := by
  intro (x : PV) hp
  replace hx : x.ok := hp
  obtain ⟨q1, q2, q3⟩ := ofP_ok hx
  have hq : ∀ c ∈ crL (ofP x).l.length (rowOf (ofP x).l), inK .u8 c.e := by rw [crL_rowOf]; exact fun c hc => (goodC_k (q2 c hc)).1
  have hE : imgsE (ofP x) = imgs (ofP x) := by rw [imgsE, if_pos q1]
  have hl8 : (imgs (ofP x)).length ≤ 8 := imgsTo_le (ofP x) 8
  have hg := ofP_good hx
  obtain ⟨d1, d2⟩ := sym_div hg (ofP_srt x)
  have d3 : ((imgs (ofP x)).length : Int).tmod (symN (ofP x)) = 0 := by rw [Int.tmod_eq_emod_of_nonneg (by omega)]; exact d2
  have hlm := least_mem hg (ofP_srt x)
  have hlf := imgs_facts hx hlm
  repeat (any_goals (first
    | (with_reducible refine And.intro (Ask.mk ?_) ?_
       first | exact trivial | exact fun _ => trivial)
    | with_reducible refine And.intro ?_ ?_
    | with_reducible refine Br.mk (fun h => ?_) (fun h => ?_)
    | with_reducible exact True.intro
    | (with_reducible refine Late.mk ?_
       exact rfl)
    | (fail_if_success with_reducible apply stopA
       fail_if_success with_reducible apply stopE
       fail_if_success with_reducible apply stopF
       fail_if_success with_reducible apply Exists.intro
       fail_if_success with_reducible intro _
       fail_if_success with_reducible apply stopK
       fail_if_success with_reducible apply stopL
       conv => whnf)))
  all_goals (try with_reducible refine Ask.mk ?_)
  all_goals (try first | exact trivial | exact fun _ => trivial)
  all_goals (try dsimp only)
  all_goals (try simp only [ptEta, pvEta, hE] at *)
  · exact ⟨fun _ _ => rfl, hx⟩
  · exact ⟨⟨isCr_rowOf _, by omega⟩, hq⟩
  · exact ⟨⟨isCr_rowOf _, by omega⟩, hq⟩
  · exact ⟨⟨isCr_rowOf _, by omega⟩, hq⟩
  · exact fun _ => by omega
  · have hd : decide (symN (ofP x) < 1) = false := by simpa using d1
    simp [q1, d3, hd] at h
  refine ⟨(0 : Nat), by omega, ?_, ?_⟩
  · repeat (any_goals (first
      | (with_reducible refine And.intro (Ask.mk ?_) ?_
         first | exact trivial | exact fun _ => trivial)
      | with_reducible refine And.intro ?_ ?_
      | with_reducible refine Br.mk (fun h => ?_) (fun h => ?_)
      | with_reducible exact True.intro
      | (with_reducible refine Late.mk ?_
         exact rfl)
      | (fail_if_success with_reducible apply stopA
         fail_if_success with_reducible apply stopE
         fail_if_success with_reducible apply stopF
         fail_if_success with_reducible apply Exists.intro
         fail_if_success with_reducible intro _
         fail_if_success with_reducible apply stopK
         fail_if_success with_reducible apply stopL
         conv => whnf)))
    all_goals (try with_reducible refine Ask.mk ?_)
    all_goals (try first | exact trivial | exact fun _ => trivial)
    all_goals (try dsimp only)
    all_goals (try simp only [ptEta, pvEta, hE])
    all_goals first | rfl | exact fun _ _ => rfl | exact fun _ _ => trivial | skip
  intro i hi
  replace hi : i ≤ (imgs (ofP x)).length := hi
  have hz : (↑i : Int).toNat = i := Int.toNat_natCast i
  have hsl := sTo_le (ofP x) i
  have key : decide ((i : Int) < (imgs (ofP x)).length) = true → i < (imgs (ofP x)).length ∧ (0 ≤ (i : Int) ∧ (i : Int) < (imgs (ofP x)).length) ∧ isCr ((imgs (ofP x)).getD i dP).l.length (rowOf ((imgs (ofP x)).getD i dP).l) ∧ ((imgs (ofP x)).getD i dP).l.length ≤ 100000 ∧ kinOK ((imgs (ofP x)).getD i dP) ∧ (∀ c ∈ ((imgs (ofP x)).getD i dP).l, inK .u8 c.e) ∧ patErr ((imgs (ofP x)).getD i dP) = 0 ∧ leastP ((imgs (ofP x)).getD i dP) = leastP (ofP x) ∧ symN ((imgs (ofP x)).getD i dP) = symN (ofP x) ∧ lexI (ptInts (leastP (ofP x))) (ptInts ((imgs (ofP x)).getD i dP)) ≤ 0 := by
    intro h
    have h := of_decide_eq_true h
    have f := imgs_facts hx (mem_getP (l := imgs (ofP x)) (i := i) (by omega))
    exact ⟨by omega, by omega, isCr_rowOf _, f⟩
  repeat (any_goals (first
    | (with_reducible refine And.intro (Ask.mk ?_) ?_
       first | exact trivial | exact fun _ => trivial)
    | with_reducible refine And.intro ?_ ?_
    | with_reducible refine Br.mk (fun h => ?_) (fun h => ?_)
    | with_reducible exact True.intro
    | (with_reducible refine Late.mk ?_
       exact rfl)
    | (fail_if_success with_reducible apply stopA
       fail_if_success with_reducible apply stopE
       fail_if_success with_reducible apply stopF
       fail_if_success with_reducible apply Exists.intro
       fail_if_success with_reducible intro _
       fail_if_success with_reducible apply stopK
       fail_if_success with_reducible apply stopL
       conv => whnf)))
  all_goals (try with_reducible refine Ask.mk ?_)
  all_goals (try first | exact trivial | exact fun _ => trivial)
  all_goals (try dsimp only)
  all_goals (try simp only [ptEta, pvEta, hz] at *)
  all_goals (try simp only [crL_rowOf] at *)
  all_goals (try (simp only [inK]; omega))
  all_goals (try (have kk := key (by assumption); obtain ⟨k0, k1, k2, k3, k4, k5, k6, k7, k8, k9⟩ := kk))
  all_goals (try (exact k1))
  all_goals (try (exact fun _ => k1))
  all_goals (try (exact ⟨⟨k2, k3⟩, k5⟩))
  · exact fun _ => ⟨⟨k2, k3⟩, isCr_rowOf _, hlf.1⟩
  · exact ⟨⟨⟨isCr_rowOf _, hlf.1⟩, hlf.2.1⟩, ⟨k2, k3⟩, k4⟩
  · exact absurd (of_decide_eq_true h) (by omega)
  · exact ⟨⟨k2, k3⟩, isCr_rowOf _, by omega⟩
  · rw [k7]; exact fun _ => ⟨⟨isCr_rowOf _, hlf.1⟩, isCr_rowOf _, hlf.1⟩
  · simp only [k6, k7, k8, sameP_self] at h
    simp at h
  · rename_i hs
    refine ⟨i + 1, by omega, by omega, ?_⟩
    rw [fTo_succ k0, sTo_succ k0, if_pos hs]
    repeat (any_goals (first
      | (with_reducible refine And.intro (Ask.mk ?_) ?_
         first | exact trivial | exact fun _ => trivial)
      | with_reducible refine And.intro ?_ ?_
      | with_reducible refine Br.mk (fun h => ?_) (fun h => ?_)
      | with_reducible exact True.intro
      | (with_reducible refine Late.mk ?_
         exact rfl)
      | (fail_if_success with_reducible apply stopA
         fail_if_success with_reducible apply stopE
         fail_if_success with_reducible apply stopF
         fail_if_success with_reducible apply Exists.intro
         fail_if_success with_reducible intro _
         fail_if_success with_reducible apply stopK
         fail_if_success with_reducible apply stopL
         conv => whnf)))
    all_goals (try with_reducible refine Ask.mk ?_)
    all_goals (try first | exact trivial | exact fun _ => trivial)
    all_goals (try dsimp only)
    all_goals first | rfl | exact fun _ _ => rfl | exact fun _ _ => trivial | skip
  · rw [k7]; exact fun _ => ⟨⟨isCr_rowOf _, hlf.1⟩, isCr_rowOf _, hlf.1⟩
  · simp only [k6, k7, k8, sameP_self] at h
    simp at h
  · rename_i hs
    refine ⟨i + 1, by omega, by omega, ?_⟩
    rw [fTo_succ k0, sTo_succ k0, if_neg (by rw [hs]; simp)]
    repeat (any_goals (first
      | (with_reducible refine And.intro (Ask.mk ?_) ?_
         first | exact trivial | exact fun _ => trivial)
      | with_reducible refine And.intro ?_ ?_
      | with_reducible refine Br.mk (fun h => ?_) (fun h => ?_)
      | with_reducible exact True.intro
      | (with_reducible refine Late.mk ?_
         exact rfl)
      | (fail_if_success with_reducible apply stopA
         fail_if_success with_reducible apply stopE
         fail_if_success with_reducible apply stopF
         fail_if_success with_reducible apply Exists.intro
         fail_if_success with_reducible intro _
         fail_if_success with_reducible apply stopK
         fail_if_success with_reducible apply stopL
         conv => whnf)))
    all_goals (try with_reducible refine Ask.mk ?_)
    all_goals (try first | exact trivial | exact fun _ => trivial)
    all_goals (try dsimp only)
    all_goals first | rfl | exact fun _ _ => rfl | exact fun _ _ => trivial | skip
  · have h := of_decide_eq_false h
    have e : i = (imgs (ofP x)).length := by omega
    subst e
    have h1 : fTo (ofP x) (imgs (ofP x)).length = true := by
      unfold fTo
      rw [List.take_length]
      exact List.any_eq_true.2 ⟨_, hlm, sameP_self _⟩
    have h2 : (sTo (ofP x) (imgs (ofP x)).length : Int) = symN (ofP x) := by
      unfold sTo symN
      rw [List.take_length, show imgsE (ofP x) = imgs (ofP x) by rw [imgsE, if_pos q1]]
      congr 3
      funext q
      exact sameP_comm _ _
    rw [h1, h2]
    simp

end Go.Proofs.YthfkpmobmnfgcaaDoor.V

/-
  FormsAlike: its call returns true, whatever the input. Conditions: none.
-/
namespace Go.Proofs.YthfkpmobmnfgcaaDoor.V
open Go

def wTo (p q : Pt) (i : Nat) : Bool := (List.range i).any fun (t : Nat) => decide (t % 2 = 0 ∨ p.W = p.H) && sameP (undF p t) q
theorem wTo_succ (p q : Pt) (i : Nat) : wTo p q (i + 1) = (wTo p q i || (decide (i % 2 = 0 ∨ p.W = p.H) && sameP (undF p i) q)) := by
  unfold wTo
  rw [List.range_succ, List.any_append]
  simp
theorem wTo_iff (p q : Pt) : wTo p q 8 = true ↔ ∃ t, okN p t ∧ undF p (t : Nat) = q := by
  unfold wTo
  simp only [List.any_eq_true, List.mem_range, Bool.and_eq_true, decide_eq_true_eq, sameP_iff, okN]
  exact ⟨fun ⟨t, h1, h2, h3⟩ => ⟨t, ⟨h1, h2⟩, h3⟩, fun ⟨t, ⟨h1, h2⟩, h3⟩ => ⟨t, h1, h2, h3⟩⟩
theorem alike_iff {p q : Pt} (hp : goodP p) (sp : srt p) (hq : goodP q) (sq : srt q) : leastP p = leastP q ↔ ∃ t, okN p t ∧ undF p (t : Nat) = q := by
  constructor
  · intro h
    obtain ⟨a, ha, e1⟩ := (mem_imgs _ _).1 (least_mem hp sp)
    obtain ⟨b, hb, e2⟩ := (mem_imgs _ _).1 (least_mem hq sq)
    have e3 : undF q (b : Nat) = undF p (a : Nat) := by rw [← e2, ← h, e1]
    have hW : q.W = p.W := by
      have := congrArg Pt.W e3
      exact this
    have hH : q.H = p.H := by
      have := congrArg Pt.H e3
      exact this
    have hb' : okN p b := ⟨hb.1, hb.2.imp id (fun h => by rw [← hW, ← hH]; exact h)⟩
    have e4 := und_inv hq sq hb
    rw [e3, und_und hp ha (okN_inv hb')] at e4
    exact ⟨_, okN_comp ha (okN_inv hb'), e4⟩
  · rintro ⟨t, ht, rfl⟩
    exact (least_und hp sp ht).symm
theorem alikeB_eq {p q : Pt} (hp : goodP p) (sp : srt p) (hq : goodP q) (sq : srt q) : alikeB p q = wTo p q 8 ∧ alikeB q p = wTo p q 8 ∧ alikeE p q = 0 ∧ alikeE q p = 0 := by
  have p0 := patErr_ok hp sp
  have q0 := patErr_ok hq sq
  have h : alikeB p q = wTo p q 8 := by
    rw [Bool.eq_iff_iff, wTo_iff, ← alike_iff hp sp hq sq, alikeB, if_pos p0, if_pos q0, sameP_iff, decide_eq_true_eq]
  refine ⟨h, ?_, by rw [alikeE, if_pos p0, q0], by rw [alikeE, if_pos q0, p0]⟩
  rw [← h, alikeB, alikeB, if_pos p0, if_pos q0, if_pos q0, if_pos p0, sameP_comm]
theorem luAll_len {x : PV} (hx : x.ok) {t : Int} (ht : okT (ofP x) t) : (luAll (ofP x) t).length ≤ 100000 := by
  have h3 := (ofP_ok hx).2.2
  rw [← sortCr_length, lu_eq (ofP_good hx) ht, undF_length]; omega

def lAlike : List (FuncId × Kon) := [(nLives, kLives), (nOf, kOf), (nImages, kImages), (nAlike, kAlike), (nSame, kSame), (nLawUnder, kLawUnder)]
theorem lAlike_ok : ∀ x ∈ lAlike, PS x.1 x.2 := by simpa [lAlike] using ⟨pLives, pOf, pImages, pAlike, pSame, pLawUnder⟩
def FLAlike : Fam := ⟨PV × PV × Int, fun (x, y, w) => [pvSV x, pvSV y, .int .u8 w], fun (x, y, w) => x.ok ∧ y.ok ∧ inK .u8 w, fun _ => .bool true⟩
theorem le2_pv (x : PV) : (pvSV x).le2 (pvSV x) := by simp [pvSV, SV.le2, SV.le1, le0L, SV.le0, capLe]
theorem FLAlike_le : ∀ i, le2L (FLAlike.args i) (FLAlike.args i) := fun (x, y, _) => ⟨le2_pv x, le2_pv y, by simp [SV.le2, SV.le1, SV.le0], trivial⟩
def ILAlike : PV × PV × Int → Nat → Option Inv
  | (x, y, _), 8 => some { β := Pt × Nat, ok := fun z => goodP z.1 ∧ srt z.1 ∧ z.1.l.length ≤ 100000 ∧ z.2 ≤ 8, st := fun z => ⟨[⟨12, none, .int .i64 z.2⟩, ⟨11, none, .bool (wTo (ofP x) z.1 z.2)⟩, ⟨6, none, .bool false⟩, ⟨8, none, .own 3 0⟩, ⟨7, none, .own 2 0⟩], [.cells 24 [.int .u8 x.W, .int .u8 x.H, .sl 3 x.L.length (trRow x.L) none], .cells 24 [.int .u8 y.W, .int .u8 y.H, .sl 3 y.L.length (trRow y.L) none], .cells 29 [.int .i64 (ofP x).W, .int .i64 (ofP x).H, .sl 3 (ofP x).l.length (rowOf (ofP x).l) none], .cells 29 [.int .i64 z.1.W, .int .i64 z.1.H, .sl 3 z.1.l.length (rowOf z.1.l) none]]⟩, μ := fun z => 8 - z.2 }
  | _, _ => none
set_option maxHeartbeats 8000000 in
set_option maxRecDepth 100000 in
theorem wLAlike : ∀ i, FLAlike.pre i → wpC (EX lAlike [] (fun _ => false) none) Go.Proofs.Tryd.f6.ntmps (ILAlike i) (Go.Proofs.Tryd.f6.body.getD .skip) ⟨retP (EX lAlike [] (fun _ => false) none) Go.Proofs.Tryd.f6 (FLAlike.res i), fun _ _ => False, retP (EX lAlike [] (fun _ => false) none) Go.Proofs.Tryd.f6 (FLAlike.res i)⟩ ⟨initE 0 (FLAlike.args i), []⟩ := by
  rintro ⟨x, y, w⟩ hp
  replace hp : x.ok ∧ y.ok ∧ inK .u8 w := hp
  obtain ⟨hx, hy, hw⟩ := hp
  obtain ⟨q1, q2, q3⟩ := ofP_ok hx
  have hw' : 0 ≤ w ∧ w ≤ 255 := hw
  have hE : imgsE (ofP x) = imgs (ofP x) := by rw [imgsE, if_pos q1]
  obtain ⟨r1, r2, r3⟩ := ofP_ok hy
  have hq : ∀ c ∈ crL (ofP x).l.length (rowOf (ofP x).l), inK .u8 c.e := by rw [crL_rowOf]; exact fun c hc => (goodC_k (q2 c hc)).1
  have hn1 := imgs_pos (ofP x)
  have hn8 : (imgs (ofP x)).length ≤ 8 := imgsTo_le (ofP x) 8
  have hm1 : w.tdiv 2 = w / 2 := Int.tdiv_eq_ediv_of_nonneg (by omega)
  have hm2 : (w / 2).tmod (imgs (ofP x)).length = (w / 2) % (imgs (ofP x)).length := Int.tmod_eq_emod_of_nonneg (by omega)
  have hb1 : 0 ≤ (w / 2) % (imgs (ofP x)).length := Int.emod_nonneg _ (by omega)
  have hb2 : (w / 2) % (imgs (ofP x)).length < (imgs (ofP x)).length := Int.emod_lt_of_pos _ (by omega)
  have hmem := mem_getP (l := imgs (ofP x)) (i := ((w / 2) % ((imgs (ofP x)).length : Int)).toNat) (by omega)
  have hpg := ofP_good hx
  have hgood : goodP ((imgs (ofP x)).getD ((w / 2) % ((imgs (ofP x)).length : Int)).toNat dP) ∧ srt ((imgs (ofP x)).getD ((w / 2) % ((imgs (ofP x)).length : Int)).toNat dP) ∧ ((imgs (ofP x)).getD ((w / 2) % ((imgs (ofP x)).length : Int)).toNat dP).l.length ≤ 100000 := by
    obtain ⟨t, ht, e⟩ := (mem_imgs _ _).1 hmem
    have hl := imgs_length _ hmem
    exact ⟨by rw [e]; exact goodP_und hpg (okN_T ht), by rw [e]; exact srt_und _ _, by omega⟩
  repeat (any_goals (first
    | (with_reducible refine And.intro (Ask.mk ?_) ?_
       first | exact trivial | exact fun _ => trivial)
    | with_reducible refine And.intro ?_ ?_
    | with_reducible refine Br.mk (fun h => ?_) (fun h => ?_)
    | with_reducible exact True.intro
    | (with_reducible refine Late.mk ?_
       exact rfl)
    | (fail_if_success with_reducible apply stopA
       fail_if_success with_reducible apply stopE
       fail_if_success with_reducible apply stopF
       fail_if_success with_reducible apply Exists.intro
       fail_if_success with_reducible intro _
       fail_if_success with_reducible apply stopK
       fail_if_success with_reducible apply stopL
       conv => whnf)))
  all_goals (try with_reducible refine Ask.mk ?_)
  all_goals (try first | exact trivial | exact fun _ => trivial)
  all_goals (try dsimp only)
  all_goals (try simp only [ptEta, pvEta, hE, hm1, hm2] at *)
  all_goals (try omega)
  · exact ⟨fun _ _ => rfl, hx⟩
  · exact ⟨fun _ _ => rfl, hy⟩
  · exact ⟨⟨isCr_rowOf _, by omega⟩, hq⟩
  · exact ⟨by omega, by simp only [inK]; omega⟩
  · simp only [inK]; omega
  rotate_left
  · simp only [q1, decide_true, Bool.true_and, decide_eq_false_iff_not] at h
    omega
  rotate_left
  · refine ⟨(((imgs (ofP x)).getD ((w / 2) % ((imgs (ofP x)).length : Int)).toNat dP, 0) : Pt × Nat), ⟨hgood.1, hgood.2.1, hgood.2.2, by omega⟩, ?_, ?_⟩
    · repeat (any_goals (first
        | (with_reducible refine And.intro (Ask.mk ?_) ?_
           first | exact trivial | exact fun _ => trivial)
        | with_reducible refine And.intro ?_ ?_
        | with_reducible refine Br.mk (fun h => ?_) (fun h => ?_)
        | with_reducible exact True.intro
        | (with_reducible refine Late.mk ?_
           exact rfl)
        | (fail_if_success with_reducible apply stopA
           fail_if_success with_reducible apply stopE
           fail_if_success with_reducible apply stopF
           fail_if_success with_reducible apply Exists.intro
           fail_if_success with_reducible intro _
           fail_if_success with_reducible apply stopK
           fail_if_success with_reducible apply stopL
           conv => whnf)))
      all_goals (try with_reducible refine Ask.mk ?_)
      all_goals (try first | exact trivial | exact fun _ => trivial)
      all_goals (try dsimp only)
      all_goals (try simp only [ptEta, pvEta, hE, hm1, hm2])
      all_goals first | rfl | exact fun _ _ => rfl | exact fun _ _ => trivial | skip
    rintro ⟨q, i⟩ ⟨gq, sq, lq, hi⟩
    replace hi : i ≤ 8 := hi
    replace gq : goodP q := gq
    replace sq : srt q := sq
    replace lq : q.l.length ≤ 100000 := lq
    clear hgood hmem hb1 hb2 hm1 hm2
    have hm : (↑i : Int).tmod 2 = (i : Int) % 2 := Int.tmod_eq_emod_of_nonneg (by omega)
    have okb : decide ((i : Int) < 8) = true → (decide ((i : Int) % 2 = 0) || decide ((ofP x).W = (ofP x).H)) = true → okT (ofP x) i := by
      intro h1 h2
      have h1 := of_decide_eq_true h1
      simp only [Bool.or_eq_true, decide_eq_true_eq] at h2
      exact ⟨by omega, by omega, h2⟩
    repeat (any_goals (first
      | (with_reducible refine And.intro (Ask.mk ?_) ?_
         first | exact trivial | exact fun _ => trivial)
      | with_reducible refine And.intro ?_ ?_
      | with_reducible refine Br.mk (fun h => ?_) (fun h => ?_)
      | with_reducible exact True.intro
      | (with_reducible refine Late.mk ?_
         exact rfl)
      | (fail_if_success with_reducible apply stopA
         fail_if_success with_reducible apply stopE
         fail_if_success with_reducible apply stopF
         fail_if_success with_reducible apply Exists.intro
         fail_if_success with_reducible intro _
         fail_if_success with_reducible apply stopK
         fail_if_success with_reducible apply stopL
         conv => whnf)))
    all_goals (try with_reducible refine Ask.mk ?_)
    all_goals (try first | exact trivial | exact fun _ => trivial)
    all_goals (try dsimp only)
    all_goals (try simp only [ptEta, pvEta, hm] at *)
    all_goals (try (simp only [inK]; omega))
    · omega
    · rename_i h8
      exact fun _ => ⟨⟨isCr_rowOf _, by omega⟩, lu_pre hx (okb h8 h)⟩
    · rename_i h8
      exact fun _ => ⟨⟨fun _ _ => rfl, luAll_len hx (okb h8 h)⟩, isCr_rowOf _, lq⟩
    · rename_i h8
      have hok := okb h8 h
      have h8 := of_decide_eq_true h8
      refine ⟨((q, i + 1) : Pt × Nat), ⟨gq, sq, lq, by omega⟩, by omega, ?_⟩
      have e := wTo_succ (ofP x) q i
      rw [lu_pt hx hok]
      rw [show decide (i % 2 = 0 ∨ (ofP x).W = (ofP x).H) = true from decide_eq_true (by have := hok.2.2; omega), Bool.true_and] at e
      simp only [e]
      repeat (any_goals (first
        | (with_reducible refine And.intro (Ask.mk ?_) ?_
           first | exact trivial | exact fun _ => trivial)
        | with_reducible refine And.intro ?_ ?_
        | with_reducible refine Br.mk (fun h => ?_) (fun h => ?_)
        | with_reducible exact True.intro
        | (with_reducible refine Late.mk ?_
           exact rfl)
        | (fail_if_success with_reducible apply stopA
           fail_if_success with_reducible apply stopE
           fail_if_success with_reducible apply stopF
           fail_if_success with_reducible apply Exists.intro
           fail_if_success with_reducible intro _
           fail_if_success with_reducible apply stopK
           fail_if_success with_reducible apply stopL
           conv => whnf)))
      all_goals (try with_reducible refine Ask.mk ?_)
      all_goals (try first | exact trivial | exact fun _ => trivial)
      all_goals (try dsimp only)
      all_goals first | rfl | exact fun _ _ => rfl | exact fun _ _ => trivial | skip
    · rename_i h8
      have h8 := of_decide_eq_true h8
      refine ⟨((q, i + 1) : Pt × Nat), ⟨gq, sq, lq, by omega⟩, by omega, ?_⟩
      have e := wTo_succ (ofP x) q i
      rw [show decide (i % 2 = 0 ∨ (ofP x).W = (ofP x).H) = false from decide_eq_false (by simp at h; omega), Bool.false_and, Bool.or_false] at e
      simp only [e]
      repeat (any_goals (first
        | (with_reducible refine And.intro (Ask.mk ?_) ?_
           first | exact trivial | exact fun _ => trivial)
        | with_reducible refine And.intro ?_ ?_
        | with_reducible refine Br.mk (fun h => ?_) (fun h => ?_)
        | with_reducible exact True.intro
        | (with_reducible refine Late.mk ?_
           exact rfl)
        | (fail_if_success with_reducible apply stopA
           fail_if_success with_reducible apply stopE
           fail_if_success with_reducible apply stopF
           fail_if_success with_reducible apply Exists.intro
           fail_if_success with_reducible intro _
           fail_if_success with_reducible apply stopK
           fail_if_success with_reducible apply stopL
           conv => whnf)))
      all_goals (try with_reducible refine Ask.mk ?_)
      all_goals (try first | exact trivial | exact fun _ => trivial)
      all_goals (try dsimp only)
      all_goals first | rfl | exact fun _ _ => rfl | exact fun _ _ => trivial | skip
    · exact ⟨⟨⟨isCr_rowOf _, by omega⟩, hq⟩, ⟨isCr_rowOf _, lq⟩, by rw [crL_rowOf]; exact fun c hc => (kin_good gq c hc).1⟩
    · exact ⟨⟨⟨isCr_rowOf _, lq⟩, by rw [crL_rowOf]; exact fun c hc => (kin_good gq c hc).1⟩, ⟨isCr_rowOf _, by omega⟩, hq⟩
    · have h := of_decide_eq_false h
      have e : i = 8 := by omega
      subst e
      obtain ⟨a1, a2, a3, a4⟩ := alikeB_eq hpg (ofP_srt x) gq sq
      rw [a1, a2, a3, a4]
      simp
  · refine ⟨((ofP y, 0) : Pt × Nat), ⟨ofP_good hy, ofP_srt y, show (ofP y).l.length ≤ 100000 by omega, by omega⟩, ?_, ?_⟩
    · repeat (any_goals (first
        | (with_reducible refine And.intro (Ask.mk ?_) ?_
           first | exact trivial | exact fun _ => trivial)
        | with_reducible refine And.intro ?_ ?_
        | with_reducible refine Br.mk (fun h => ?_) (fun h => ?_)
        | with_reducible exact True.intro
        | (with_reducible refine Late.mk ?_
           exact rfl)
        | (fail_if_success with_reducible apply stopA
           fail_if_success with_reducible apply stopE
           fail_if_success with_reducible apply stopF
           fail_if_success with_reducible apply Exists.intro
           fail_if_success with_reducible intro _
           fail_if_success with_reducible apply stopK
           fail_if_success with_reducible apply stopL
           conv => whnf)))
      all_goals (try with_reducible refine Ask.mk ?_)
      all_goals (try first | exact trivial | exact fun _ => trivial)
      all_goals (try dsimp only)
      all_goals (try simp only [ptEta, pvEta, hE, hm1, hm2])
      all_goals first | rfl | exact fun _ _ => rfl | exact fun _ _ => trivial | skip
    rintro ⟨q, i⟩ ⟨gq, sq, lq, hi⟩
    replace hi : i ≤ 8 := hi
    replace gq : goodP q := gq
    replace sq : srt q := sq
    replace lq : q.l.length ≤ 100000 := lq
    clear hgood hmem hb1 hb2 hm1 hm2
    have hm : (↑i : Int).tmod 2 = (i : Int) % 2 := Int.tmod_eq_emod_of_nonneg (by omega)
    have okb : decide ((i : Int) < 8) = true → (decide ((i : Int) % 2 = 0) || decide ((ofP x).W = (ofP x).H)) = true → okT (ofP x) i := by
      intro h1 h2
      have h1 := of_decide_eq_true h1
      simp only [Bool.or_eq_true, decide_eq_true_eq] at h2
      exact ⟨by omega, by omega, h2⟩
    repeat (any_goals (first
      | (with_reducible refine And.intro (Ask.mk ?_) ?_
         first | exact trivial | exact fun _ => trivial)
      | with_reducible refine And.intro ?_ ?_
      | with_reducible refine Br.mk (fun h => ?_) (fun h => ?_)
      | with_reducible exact True.intro
      | (with_reducible refine Late.mk ?_
         exact rfl)
      | (fail_if_success with_reducible apply stopA
         fail_if_success with_reducible apply stopE
         fail_if_success with_reducible apply stopF
         fail_if_success with_reducible apply Exists.intro
         fail_if_success with_reducible intro _
         fail_if_success with_reducible apply stopK
         fail_if_success with_reducible apply stopL
         conv => whnf)))
    all_goals (try with_reducible refine Ask.mk ?_)
    all_goals (try first | exact trivial | exact fun _ => trivial)
    all_goals (try dsimp only)
    all_goals (try simp only [ptEta, pvEta, hm] at *)
    all_goals (try (simp only [inK]; omega))
    · omega
    · rename_i h8
      exact fun _ => ⟨⟨isCr_rowOf _, by omega⟩, lu_pre hx (okb h8 h)⟩
    · rename_i h8
      exact fun _ => ⟨⟨fun _ _ => rfl, luAll_len hx (okb h8 h)⟩, isCr_rowOf _, lq⟩
    · rename_i h8
      have hok := okb h8 h
      have h8 := of_decide_eq_true h8
      refine ⟨((q, i + 1) : Pt × Nat), ⟨gq, sq, lq, by omega⟩, by omega, ?_⟩
      have e := wTo_succ (ofP x) q i
      rw [lu_pt hx hok]
      rw [show decide (i % 2 = 0 ∨ (ofP x).W = (ofP x).H) = true from decide_eq_true (by have := hok.2.2; omega), Bool.true_and] at e
      simp only [e]
      repeat (any_goals (first
        | (with_reducible refine And.intro (Ask.mk ?_) ?_
           first | exact trivial | exact fun _ => trivial)
        | with_reducible refine And.intro ?_ ?_
        | with_reducible refine Br.mk (fun h => ?_) (fun h => ?_)
        | with_reducible exact True.intro
        | (with_reducible refine Late.mk ?_
           exact rfl)
        | (fail_if_success with_reducible apply stopA
           fail_if_success with_reducible apply stopE
           fail_if_success with_reducible apply stopF
           fail_if_success with_reducible apply Exists.intro
           fail_if_success with_reducible intro _
           fail_if_success with_reducible apply stopK
           fail_if_success with_reducible apply stopL
           conv => whnf)))
      all_goals (try with_reducible refine Ask.mk ?_)
      all_goals (try first | exact trivial | exact fun _ => trivial)
      all_goals (try dsimp only)
      all_goals first | rfl | exact fun _ _ => rfl | exact fun _ _ => trivial | skip
    · rename_i h8
      have h8 := of_decide_eq_true h8
      refine ⟨((q, i + 1) : Pt × Nat), ⟨gq, sq, lq, by omega⟩, by omega, ?_⟩
      have e := wTo_succ (ofP x) q i
      rw [show decide (i % 2 = 0 ∨ (ofP x).W = (ofP x).H) = false from decide_eq_false (by simp at h; omega), Bool.false_and, Bool.or_false] at e
      simp only [e]
      repeat (any_goals (first
        | (with_reducible refine And.intro (Ask.mk ?_) ?_
           first | exact trivial | exact fun _ => trivial)
        | with_reducible refine And.intro ?_ ?_
        | with_reducible refine Br.mk (fun h => ?_) (fun h => ?_)
        | with_reducible exact True.intro
        | (with_reducible refine Late.mk ?_
           exact rfl)
        | (fail_if_success with_reducible apply stopA
           fail_if_success with_reducible apply stopE
           fail_if_success with_reducible apply stopF
           fail_if_success with_reducible apply Exists.intro
           fail_if_success with_reducible intro _
           fail_if_success with_reducible apply stopK
           fail_if_success with_reducible apply stopL
           conv => whnf)))
      all_goals (try with_reducible refine Ask.mk ?_)
      all_goals (try first | exact trivial | exact fun _ => trivial)
      all_goals (try dsimp only)
      all_goals first | rfl | exact fun _ _ => rfl | exact fun _ _ => trivial | skip
    · exact ⟨⟨⟨isCr_rowOf _, by omega⟩, hq⟩, ⟨isCr_rowOf _, lq⟩, by rw [crL_rowOf]; exact fun c hc => (kin_good gq c hc).1⟩
    · exact ⟨⟨⟨isCr_rowOf _, lq⟩, by rw [crL_rowOf]; exact fun c hc => (kin_good gq c hc).1⟩, ⟨isCr_rowOf _, by omega⟩, hq⟩
    · have h := of_decide_eq_false h
      have e : i = 8 := by omega
      subst e
      obtain ⟨a1, a2, a3, a4⟩ := alikeB_eq hpg (ofP_srt x) gq sq
      rw [a1, a2, a3, a4]
      simp

end Go.Proofs.YthfkpmobmnfgcaaDoor.V

