/-
  Parts of the proof: P16j P9 P10 P17 P18 P19 P20 P21 P22 P23. Conditions: none.
-/
import Derived.Test.YthfkpmobmnfgcaaDoorBc4
import Derived.Test.YthfkpmobmnfgcaaDoorBc5
import Derived.Test.YthfkpmobmnfgcaaDoorBc6
import Derived.Test.YthfkpmobmnfgcaaDoorBc7
/-
  The contract of forms.image. Conditions: none.
-/
namespace Go.Proofs.YthfkpmobmnfgcaaDoor.V
open Go

theorem image_le {W H t i : Int} (he : ceErr W H i = 0) (h0 : 0 ≤ t) (h7 : t ≤ 7) (hW : t % 2 = 0 ∨ W = H) : 0 ≤ imX t W (ceX W H i) (ceY W H i) ∧ imX t W (ceX W H i) (ceY W H i) < W ∧ 0 ≤ imY t H (ceX W H i) (ceY W H i) ∧ imY t H (ceX W H i) (ceY W H i) < H ∧ 0 ≤ imQ t (ceQ W H i) ∧ imQ t (ceQ W H i) ≤ 3 := by
  obtain ⟨l1, l2, l3, l4, l5, l6, l7, l8, l9⟩ := ce_le he
  have hq := ceQ_le W H i
  have : t = 0 ∨ t = 1 ∨ t = 2 ∨ t = 3 ∨ t = 4 ∨ t = 5 ∨ t = 6 ∨ t = 7 := by omega
  rcases this with rfl | rfl | rfl | rfl | rfl | rfl | rfl | rfl <;> simp [imX, imY, imQ] <;> omega
set_option maxRecDepth 100000 in
theorem pImage : PS nImage kImage := by
  refine con lImage (by simpa [lImage] using ⟨pSheetsCell, pTu0, pTu1, pTu2, pTu3, pTu4, pTu5, pTu6, pTu7, pIndex, pId⟩) FImage (fun _ _ => none) kImage ?_ ?_ Go.Proofs.Tryd.func43 (by kernel_rfl) (by kernel_rfl) (by kernel_rfl) ?_
  · intro args pre s h hp
    unfold kImage at h
    split at h
    · rename_i W H t i; cases h; exact ⟨(W, H, t, i), by simp [FImage, le2L, SV.le2, SV.le1, le0L, SV.le0], hp, rfl⟩
    · cases h
  · intro i; show 3 ≤ _; decide
  · rintro ⟨W, H, t, i⟩ ⟨he, h0, h7, hW⟩
    replace h0 : 0 ≤ t := h0
    replace h7 : t ≤ 7 := h7
    have : t = 0 ∨ t = 1 ∨ t = 2 ∨ t = 3 ∨ t = 4 ∨ t = 5 ∨ t = 6 ∨ t = 7 := by omega
    rcases this with rfl | rfl | rfl | rfl | rfl | rfl | rfl | rfl
    · exact vImage0 W H i he hW
    · exact vImage1 W H i he hW
    · exact vImage2 W H i he hW
    · exact vImage3 W H i he hW
    · exact vImage4 W H i he hW
    · exact vImage5 W H i he hW
    · exact vImage6 W H i he hW
    · exact vImage7 W H i he hW

end Go.Proofs.YthfkpmobmnfgcaaDoor.V

/-
  Contracts: patterns compared. Conditions: none.
-/
namespace Go.Proofs.YthfkpmobmnfgcaaDoor.V
open Go

theorem le1_sl {s : SV} {sz n : Nat} {f : Nat → List SV} {c : Option Nat} (h : s.le0 (.sl sz n f c)) : s.le1 (.sl sz n f c) := by
  cases s <;> exact h

structure Pt where
  W : Int
  H : Int
  l : List Cr
  deriving DecidableEq

def patSV (p : Pt) : SV := .agg [.int .i64 p.W, .int .i64 p.H, .sl 3 p.l.length (rowOf p.l) none]
/-- A pattern, read off a value. -/
def asPat : SV → Option (Prop × Pt)
  | .agg [.int .i64 W, .int .i64 H, x] => (asCr x).map fun q => (isCr q.1 q.2 ∧ q.1 ≤ 100000, ⟨W, H, crL q.1 q.2⟩)
  | _ => none
theorem asPat_le {s : SV} {q : Prop} {p : Pt} (h : asPat s = some (q, p)) (hq : q) : s.le2 (patSV p) ∧ p.l.length ≤ 100000 := by
  unfold asPat at h
  split at h
  · rename_i W H x
    rw [Option.map_eq_some_iff] at h
    obtain ⟨⟨n, f⟩, hx, h⟩ := h
    cases h
    refine ⟨?_, by simp only [crL_length]; exact hq.2⟩
    simp only [patSV, SV.le2, SV.le1, le0L, and_true]
    exact ⟨by simp [SV.le0], by simp [SV.le0], asCr_le hx hq.1⟩
  · cases h

def sameP (p q : Pt) : Bool := decide (p.W = q.W) && (decide (p.H = q.H) && true) && decide (p.l = q.l)
theorem sameP_iff (p q : Pt) : sameP p q = decide (p = q) := by
  cases p; cases q
  simp [sameP, Bool.decide_and, Bool.and_assoc]
abbrev nSame : FuncId := 10
def kSame : Kon
  | [x, y] => match asPat x, asPat y with
    | some (a, p), some (b, q) => some (a ∧ b, .bool (sameP p q))
    | _, _ => none
  | _ => none
def FSame : Fam := ⟨Pt × Pt, fun (p, q) => [patSV p, patSV q], fun (p, q) => p.l.length ≤ 100000 ∧ q.l.length ≤ 100000, fun (p, q) => .bool (sameP p q)⟩
set_option maxRecDepth 100000 in
theorem pSame : PS nSame kSame := by
  refine con [(nEqual, kEqual)] (by simpa using pEqual) FSame (fun _ _ => none) kSame ?_ ?_ Go.Proofs.Tryd.func10 (by kernel_rfl) (by kernel_rfl) (by kernel_rfl) ?_
  · intro args pre s h hp
    unfold kSame at h
    split at h
    · split at h
      · rename_i a p b q hx hy
        cases h
        exact ⟨(p, q), ⟨(asPat_le hx hp.1).1, (asPat_le hy hp.2).1, trivial⟩, ⟨(asPat_le hx hp.1).2, (asPat_le hy hp.2).2⟩, rfl⟩
      · cases h
    · cases h
  · intro i; show 2 ≤ _; decide
  · rintro ⟨p, q⟩ hp
    replace hp : p.l.length ≤ 100000 ∧ q.l.length ≤ 100000 := hp
    repeat (any_goals (first
      | (with_reducible refine And.intro (Ask.mk ?_) ?_
         first | exact trivial | exact fun _ => trivial)
      | with_reducible refine And.intro ?_ ?_
      | with_reducible refine Br.mk (fun h => ?_) (fun h => ?_)
      | with_reducible exact True.intro
      | (with_reducible refine Late.mk ?_
         exact rfl)
      | (fail_if_success with_reducible apply stopA
         fail_if_success with_reducible apply stopE
         fail_if_success with_reducible apply stopF
         fail_if_success with_reducible apply Exists.intro
         fail_if_success with_reducible intro _
         fail_if_success with_reducible apply stopK
         fail_if_success with_reducible apply stopL
         conv => whnf)))
    all_goals (try with_reducible refine Ask.mk ?_)
    all_goals (try first | exact trivial | exact fun _ => trivial)
    all_goals (try dsimp only)
    · exact fun _ => ⟨isCr_rowOf _, isCr_rowOf _, hp.1⟩
    · rw [crL_rowOf, crL_rowOf]; rfl

def cmpP (p q : Pt) : Int := or3 (cmpI p.W q.W) (cmpI p.H q.H) (cmpL p.l q.l)
abbrev nPCompare : FuncId := 16
def kPCompare : Kon
  | [x, y] => match asPat x, asPat y with
    | some (a, p), some (b, q) => some (a ∧ b, .int .i64 (cmpP p q))
    | _, _ => none
  | _ => none
def FPCompare : Fam := ⟨Pt × Pt, fun (p, q) => [patSV p, patSV q], fun (p, q) => p.l.length ≤ 100000 ∧ q.l.length ≤ 100000, fun (p, q) => .int .i64 (cmpP p q)⟩
set_option maxRecDepth 100000 in
theorem pPCompare : PS nPCompare kPCompare := by
  refine con [(nCmp, kCmp), (nCompareFunc, kCompareFunc), (nOr, kOr)] (by simpa using ⟨pCmp, pCompareFunc, pOr⟩) FPCompare (fun _ _ => none) kPCompare ?_ ?_ Go.Proofs.Tryd.func16 (by kernel_rfl) (by kernel_rfl) (by kernel_rfl) ?_
  · intro args pre s h hp
    unfold kPCompare at h
    split at h
    · split at h
      · rename_i a p b q hx hy
        cases h
        exact ⟨(p, q), ⟨(asPat_le hx hp.1).1, (asPat_le hy hp.2).1, trivial⟩, ⟨(asPat_le hx hp.1).2, (asPat_le hy hp.2).2⟩, rfl⟩
      · cases h
    · cases h
  · intro i; show 2 ≤ _; decide
  · rintro ⟨p, q⟩ hp
    replace hp : p.l.length ≤ 100000 ∧ q.l.length ≤ 100000 := hp
    repeat (any_goals (first
      | (with_reducible refine And.intro (Ask.mk ?_) ?_
         first | exact trivial | exact fun _ => trivial)
      | with_reducible refine And.intro ?_ ?_
      | with_reducible refine Br.mk (fun h => ?_) (fun h => ?_)
      | with_reducible exact True.intro
      | (with_reducible refine Late.mk ?_
         exact rfl)
      | (fail_if_success with_reducible apply stopA
         fail_if_success with_reducible apply stopE
         fail_if_success with_reducible apply stopF
         fail_if_success with_reducible apply Exists.intro
         fail_if_success with_reducible intro _
         fail_if_success with_reducible apply stopK
         fail_if_success with_reducible apply stopL
         conv => whnf)))
    all_goals (try with_reducible refine Ask.mk ?_)
    all_goals (try first | exact trivial | exact fun _ => trivial)
    all_goals (try dsimp only)
    · exact ⟨isCr_rowOf _, isCr_rowOf _, hp.1⟩
    · rw [crL_rowOf, crL_rowOf]; rfl

end Go.Proofs.YthfkpmobmnfgcaaDoor.V

/-
  Contracts: the edge towards a neighbour; when a pattern is valid. Conditions: none.
-/
namespace Go.Proofs.YthfkpmobmnfgcaaDoor.V
open Go

def isNb (W H i k to : Int) : Bool := decide (neErr W H i k = 0) && decide (neVal W H i k = to)
def edgeF (W H i to : Int) : Int := if isNb W H i 0 to then 0 else if isNb W H i 1 to then 1 else if isNb W H i 2 to then 2 else 0
def IEdge (W H i to : Int) : Nat → Option Inv
  | 2 => some { β := Nat, ok := fun k => k ≤ 3 ∧ ∀ j : Nat, j < k → isNb W H i j to = false, st := fun k => ⟨[⟨10, none, .int .u8 k⟩, ⟨3, none, .own 0 0⟩, ⟨1, none, .int .i64 i⟩, ⟨2, none, .int .i64 to⟩], [.cells 26 [.int .i64 W, .int .i64 H]]⟩, μ := fun k => 3 - k }
  | _ => none
abbrev nFEdge : FuncId := 44
def kFEdge : Kon
  | [.agg [.int .i64 W, .int .i64 H], .int .i64 i, .int .i64 to] => some (True, .int .u8 (edgeF W H i to))
  | _ => none
def FFEdge : Fam := ⟨Int × Int × Int × Int, fun (W, H, i, to) => [.agg [.int .i64 W, .int .i64 H], .int .i64 i, .int .i64 to], fun (W, H, i, to) => True, fun (W, H, i, to) => .int .u8 (edgeF W H i to)⟩
set_option maxHeartbeats 4000000 in
set_option maxRecDepth 100000 in
theorem pFEdge : PS nFEdge kFEdge := by
  refine con [(nNeighbour, kNeighbour)] (by simpa using pNeighbour) FFEdge (fun (W, H, i, to) => IEdge W H i to) kFEdge ?_ ?_ Go.Proofs.Tryd.func44 (by kernel_rfl) (by kernel_rfl) (by kernel_rfl) ?_
  · intro args pre s h hp
    unfold kFEdge at h
    split at h
    · rename_i W H i to; cases h; exact ⟨(W, H, i, to), by simp [FFEdge, le2L, SV.le2, SV.le1, le0L, SV.le0], hp, rfl⟩
    · cases h
  · intro i; show 3 ≤ _; decide
  · rintro ⟨W, H, i, to⟩ hp
    replace hp : True := hp
    repeat (any_goals (first
      | (with_reducible refine And.intro (Ask.mk ?_) ?_
         first | exact trivial | exact fun _ => trivial)
      | with_reducible refine And.intro ?_ ?_
      | with_reducible refine Br.mk (fun h => ?_) (fun h => ?_)
      | with_reducible exact True.intro
      | (with_reducible refine Late.mk ?_
         exact rfl)
      | (fail_if_success with_reducible apply stopA
         fail_if_success with_reducible apply stopE
         fail_if_success with_reducible apply stopF
         fail_if_success with_reducible apply Exists.intro
         fail_if_success with_reducible intro _
         fail_if_success with_reducible apply stopK
         fail_if_success with_reducible apply stopL
         conv => whnf)))
    all_goals (try with_reducible refine Ask.mk ?_)
    all_goals (try first | exact trivial | exact fun _ => trivial)
    all_goals (try dsimp only)
    refine ⟨(0 : Nat), ⟨by omega, fun j hj => by omega⟩, ?_, ?_⟩
    · repeat (any_goals (first
        | (with_reducible refine And.intro (Ask.mk ?_) ?_
           first | exact trivial | exact fun _ => trivial)
        | with_reducible refine And.intro ?_ ?_
        | with_reducible refine Br.mk (fun h => ?_) (fun h => ?_)
        | with_reducible exact True.intro
        | (with_reducible refine Late.mk ?_
           exact rfl)
        | (fail_if_success with_reducible apply stopA
           fail_if_success with_reducible apply stopE
           fail_if_success with_reducible apply stopF
           fail_if_success with_reducible apply Exists.intro
           fail_if_success with_reducible intro _
           fail_if_success with_reducible apply stopK
           fail_if_success with_reducible apply stopL
           conv => whnf)))
      all_goals (try with_reducible refine Ask.mk ?_)
      all_goals (try first | exact trivial | exact fun _ => trivial)
      all_goals (try dsimp only)
      all_goals first | rfl | skip
    · rintro k ⟨k1, k2⟩
      repeat (any_goals (first
        | (with_reducible refine And.intro (Ask.mk ?_) ?_
           first | exact trivial | exact fun _ => trivial)
        | with_reducible refine And.intro ?_ ?_
        | with_reducible refine Br.mk (fun h => ?_) (fun h => ?_)
        | with_reducible exact True.intro
        | (with_reducible refine Late.mk ?_
           exact rfl)
        | (fail_if_success with_reducible apply stopA
           fail_if_success with_reducible apply stopE
           fail_if_success with_reducible apply stopF
           fail_if_success with_reducible apply Exists.intro
           fail_if_success with_reducible intro _
           fail_if_success with_reducible apply stopK
           fail_if_success with_reducible apply stopL
           conv => whnf)))
      all_goals (try with_reducible refine Ask.mk ?_)
      all_goals (try first | exact trivial | exact fun _ => trivial)
      all_goals (try dsimp only)
      · omega
      · rename_i h0; simp at h0
        replace h : isNb W H i k to = true := h
        have : k = 0 ∨ k = 1 ∨ k = 2 := by omega
        rcases this with rfl | rfl | rfl
        · have h : isNb W H i 0 to = true := h
          simp [edgeF, h]
        · have h : isNb W H i 1 to = true := h
          have e0 : isNb W H i 0 to = false := k2 0 (by omega)
          simp [edgeF, h, e0]
        · have h : isNb W H i 2 to = true := h
          have e0 : isNb W H i 0 to = false := k2 0 (by omega)
          have e1 : isNb W H i 1 to = false := k2 1 (by omega)
          simp [edgeF, h, e0, e1]
      · simp only [inK]; rename_i h0; simp at h0; omega
      · rename_i h0; simp at h0
        refine ⟨k + 1, ⟨by omega, fun j hj => ?_⟩, by omega, ?_⟩
        · by_cases e : j = k
          · subst e; exact h
          · exact k2 j (by omega)
        · repeat (any_goals (first
            | (with_reducible refine And.intro (Ask.mk ?_) ?_
               first | exact trivial | exact fun _ => trivial)
            | with_reducible refine And.intro ?_ ?_
            | with_reducible refine Br.mk (fun h => ?_) (fun h => ?_)
            | with_reducible exact True.intro
            | (with_reducible refine Late.mk ?_
               exact rfl)
            | (fail_if_success with_reducible apply stopA
               fail_if_success with_reducible apply stopE
               fail_if_success with_reducible apply stopF
               fail_if_success with_reducible apply Exists.intro
               fail_if_success with_reducible intro _
               fail_if_success with_reducible apply stopK
               fail_if_success with_reducible apply stopL
               conv => whnf)))
          all_goals (try with_reducible refine Ask.mk ?_)
          all_goals (try first | exact trivial | exact fun _ => trivial)
          all_goals (try dsimp only)
          all_goals first | rfl | omega
      · simp at h
        have e0 : isNb W H i 0 to = false := k2 0 (by omega)
        have e1 : isNb W H i 1 to = false := k2 1 (by omega)
        have e2 : isNb W H i 2 to = false := k2 2 (by omega)
        simp [edgeF, e0, e1, e2]

theorem any_hit {q : Cr → Bool} {l : List Cr} {i : Nat} (hi : i < l.length) (h : q (l.getD i d0) = true) : l.any q = true := by
  refine List.any_eq_true.2 ⟨l[i], List.getElem_mem hi, ?_⟩
  simpa [List.getD_eq_getElem?_getD, hi] using h
theorem any_none {q : Cr → Bool} {l : List Cr} (h : ∀ j, j < l.length → q (l.getD j d0) = false) : l.any q = false := by
  rw [List.any_eq_false]
  intro x hx
  obtain ⟨j, hj, rfl⟩ := List.mem_iff_getElem.1 hx
  have := h j hj
  simpa [List.getD_eq_getElem?_getD, hj] using this
theorem any_get {q : Cr → Bool} {l : List Cr} {i : Nat} (hi : i < l.length) (h : l.any q = false) : q (l.getD i d0) = false := by
  rw [List.any_eq_false] at h
  have := h l[i] (List.getElem_mem hi)
  simpa [List.getD_eq_getElem?_getD, hi] using this
theorem mem_getD {l : List Cr} {i : Nat} (hi : i < l.length) : l.getD i d0 ∈ l := by
  simp [List.getD_eq_getElem?_getD, hi]
theorem neErr_cell {W H i e : Int} (h : shErr W H = 0) (hn : neErr W H i e = 0) : 0 ≤ i ∧ i < 1024 := by
  have hc : ceErr W H i = 0 := by
    unfold neErr at hn
    split at hn
    · assumption
    · exact hn
  unfold ceErr at hc
  rw [if_pos h] at hc
  split at hc
  · rename_i hb
    obtain ⟨h1, h2, h3, h4, h5, h6, h7⟩ := shErr_zero h
    simp [hasB] at hb
    omega
  · cases hc

/-- The units of the creases ascend from the one at i on. -/
def patBadN (p : Pt) (x : Cr) : Bool := !decide (neErr p.W p.H x.c x.e = 0) || !(decide (nmCell p.W p.H x.c x.e = x.c) && (decide (nmEdge p.W p.H x.c x.e = x.e) && true))
def patBadO (p : Pt) (i : Nat) : Bool := decide (0 ≤ ordU (p.l.getD i d0).c (p.l.getD i d0).e (p.l.getD (i + 1) d0).c (p.l.getD (i + 1) d0).e)
def patErr (p : Pt) : Int := if shErr p.W p.H = 0 then (if p.l.any badK then 1 else if p.l.any (patBadN p) then 7 else if (List.range (p.l.length - 1)).any (patBadO p) then 6 else 0) else 1
abbrev nPCheck : FuncId := 18
def kPCheck : Kon
  | [x] => match asPat x with
    | some (a, p) => some (a ∧ ∀ c ∈ p.l, inK .u8 c.e, .int .i64 (patErr p))
    | none => none
  | _ => none
def FPCheck : Fam := ⟨Pt, fun p => [patSV p], fun p => p.l.length ≤ 100000 ∧ ∀ c ∈ p.l, inK .u8 c.e, fun p => .int .i64 (patErr p)⟩
def IPCheck (p : Pt) : Nat → Option Inv
  | 7 => some { β := Nat, ok := fun i => i ≤ p.l.length ∧ shErr p.W p.H = 0 ∧ p.l.any badK = false ∧ ∀ j, j < i → patBadN p (p.l.getD j d0) = false, st := fun i => ⟨[⟨21, none, .int .i64 i⟩, ⟨20, none, .int .i64 p.l.length⟩, ⟨19, none, .sl 3 p.l.length (rowOf p.l) none⟩, ⟨1, none, .own 0 0⟩], [.cells 29 [.int .i64 p.W, .int .i64 p.H, .sl 3 p.l.length (rowOf p.l) none]]⟩, μ := fun i => p.l.length - i }
  | 14 => some { β := Nat, ok := fun i => 1 ≤ i ∧ (i = 1 ∨ i ≤ p.l.length) ∧ shErr p.W p.H = 0 ∧ p.l.any badK = false ∧ p.l.any (patBadN p) = false ∧ ∀ j, j + 1 < i → patBadO p j = false, st := fun i => ⟨[⟨8, none, .int .i64 i⟩, ⟨1, none, .own 0 0⟩], [.cells 29 [.int .i64 p.W, .int .i64 p.H, .sl 3 p.l.length (rowOf p.l) none]]⟩, μ := fun i => p.l.length + 1 - i }
  | _ => none
set_option maxRecDepth 100000 in
theorem pPCheck : PS nPCheck kPCheck := by
  refine con [(nSheetsCheck, kSheetsCheck), (nContains, kContains), (nName, kName), (nUnit, kUnit), (nOrder, kOrder)] (by simpa using ⟨pSheetsCheck, pContains, pName, pUnit, pOrder⟩) FPCheck (fun p => IPCheck p) kPCheck ?_ ?_ Go.Proofs.Tryd.func18 (by kernel_rfl) (by kernel_rfl) (by kernel_rfl) ?_
  · intro args pre s h hp
    unfold kPCheck at h
    split at h
    · split at h
      · rename_i a p hx
        cases h
        exact ⟨p, ⟨(asPat_le hx hp.1).1, trivial⟩, ⟨(asPat_le hx hp.1).2, hp.2⟩, rfl⟩
      · cases h
    · cases h
  · intro i; show 1 ≤ _; decide
  · rintro (p : Pt) hp
    replace hp : p.l.length ≤ 100000 ∧ ∀ c ∈ p.l, inK .u8 c.e := hp
    repeat (any_goals (first
      | (with_reducible refine And.intro (Ask.mk ?_) ?_
         first | exact trivial | exact fun _ => trivial)
      | with_reducible refine And.intro ?_ ?_
      | with_reducible refine Br.mk (fun h => ?_) (fun h => ?_)
      | with_reducible exact True.intro
      | (with_reducible refine Late.mk ?_
         exact rfl)
      | (fail_if_success with_reducible apply stopA
         fail_if_success with_reducible apply stopE
         fail_if_success with_reducible apply stopF
         fail_if_success with_reducible apply Exists.intro
         fail_if_success with_reducible intro _
         fail_if_success with_reducible apply stopK
         fail_if_success with_reducible apply stopL
         conv => whnf)))
    all_goals (try with_reducible refine Ask.mk ?_)
    all_goals (try first | exact trivial | exact fun _ => trivial)
    all_goals (try dsimp only)
    · simp at h; rw [patErr, if_neg h]; exact (shErr_or p.W p.H).resolve_left h
    · exact ⟨isCr_rowOf _, hp.1⟩
    · rename_i h0; simp at h0; rw [crL_rowOf] at h
      rw [patErr, if_pos h0, if_pos h]
    · rename_i h0; simp at h0; rw [crL_rowOf] at h
      refine ⟨(0 : Nat), ⟨by omega, h0, h, fun j hj => by omega⟩, ?_, ?_⟩
      · repeat (any_goals (first
          | (with_reducible refine And.intro (Ask.mk ?_) ?_
             first | exact trivial | exact fun _ => trivial)
          | with_reducible refine And.intro ?_ ?_
          | with_reducible refine Br.mk (fun h => ?_) (fun h => ?_)
          | with_reducible exact True.intro
          | (with_reducible refine Late.mk ?_
             exact rfl)
          | (fail_if_success with_reducible apply stopA
             fail_if_success with_reducible apply stopE
             fail_if_success with_reducible apply stopF
             fail_if_success with_reducible apply Exists.intro
             fail_if_success with_reducible intro _
             fail_if_success with_reducible apply stopK
             fail_if_success with_reducible apply stopL
             conv => whnf)))
        all_goals (try with_reducible refine Ask.mk ?_)
        all_goals (try first | exact trivial | exact fun _ => trivial)
        all_goals (try dsimp only)
        all_goals first | rfl | exact fun _ _ => rfl | skip
      · rintro i ⟨hi1, hi2, hi3, hi4⟩
        repeat (any_goals (first
          | (with_reducible refine And.intro (Ask.mk ?_) ?_
             first | exact trivial | exact fun _ => trivial)
          | with_reducible refine And.intro ?_ ?_
          | with_reducible refine Br.mk (fun h => ?_) (fun h => ?_)
          | with_reducible exact True.intro
          | (with_reducible refine Late.mk ?_
             exact rfl)
          | (fail_if_success with_reducible apply stopA
             fail_if_success with_reducible apply stopE
             fail_if_success with_reducible apply stopF
             fail_if_success with_reducible apply Exists.intro
             fail_if_success with_reducible intro _
             fail_if_success with_reducible apply stopK
             fail_if_success with_reducible apply stopL
             conv => whnf)))
        all_goals (try with_reducible refine Ask.mk ?_)
        all_goals (try first | exact trivial | exact fun _ => trivial)
        all_goals (try dsimp only)
        · simp at h; omega
        · simp at h
          have := hp.2 _ (mem_getD (i := i) h)
          simp only [inK] at this
          exact this.1
        · rename_i h1; simp at h1
          have e : patBadN p (p.l.getD i d0) = true := h
          rw [patErr, if_pos hi2, if_neg (by simp [hi3]), if_pos (any_hit h1 e)]
        · simp only [inK]; omega
        · rename_i h1; simp at h1
          refine ⟨i + 1, ⟨by omega, hi2, hi3, fun j hj => ?_⟩, by omega, ?_⟩
          · by_cases e : j = i
            · subst e; exact h
            · exact hi4 j (by omega)
          · repeat (any_goals (first
              | (with_reducible refine And.intro (Ask.mk ?_) ?_
                 first | exact trivial | exact fun _ => trivial)
              | with_reducible refine And.intro ?_ ?_
              | with_reducible refine Br.mk (fun h => ?_) (fun h => ?_)
              | with_reducible exact True.intro
              | (with_reducible refine Late.mk ?_
                 exact rfl)
              | (fail_if_success with_reducible apply stopA
                 fail_if_success with_reducible apply stopE
                 fail_if_success with_reducible apply stopF
                 fail_if_success with_reducible apply Exists.intro
                 fail_if_success with_reducible intro _
                 fail_if_success with_reducible apply stopK
                 fail_if_success with_reducible apply stopL
                 conv => whnf)))
            all_goals (try with_reducible refine Ask.mk ?_)
            all_goals (try first | exact trivial | exact fun _ => trivial)
            all_goals (try dsimp only)
            all_goals first | rfl | exact fun _ _ => rfl | omega
        · simp at h
          have hi5 : p.l.any (patBadN p) = false := any_none (fun j hj => hi4 j (by omega))
          refine ⟨(1 : Nat), ⟨by omega, .inl rfl, hi2, hi3, hi5, fun j hj => by omega⟩, ?_, ?_⟩
          · repeat (any_goals (first
              | (with_reducible refine And.intro (Ask.mk ?_) ?_
                 first | exact trivial | exact fun _ => trivial)
              | with_reducible refine And.intro ?_ ?_
              | with_reducible refine Br.mk (fun h => ?_) (fun h => ?_)
              | with_reducible exact True.intro
              | (with_reducible refine Late.mk ?_
                 exact rfl)
              | (fail_if_success with_reducible apply stopA
                 fail_if_success with_reducible apply stopE
                 fail_if_success with_reducible apply stopF
                 fail_if_success with_reducible apply Exists.intro
                 fail_if_success with_reducible intro _
                 fail_if_success with_reducible apply stopK
                 fail_if_success with_reducible apply stopL
                 conv => whnf)))
            all_goals (try with_reducible refine Ask.mk ?_)
            all_goals (try first | exact trivial | exact fun _ => trivial)
            all_goals (try dsimp only)
            all_goals first | rfl | exact fun _ _ => rfl | skip
          · rintro k ⟨k1, k2, -, -, -, k3⟩
            repeat (any_goals (first
              | (with_reducible refine And.intro (Ask.mk ?_) ?_
                 first | exact trivial | exact fun _ => trivial)
              | with_reducible refine And.intro ?_ ?_
              | with_reducible refine Br.mk (fun h => ?_) (fun h => ?_)
              | with_reducible exact True.intro
              | (with_reducible refine Late.mk ?_
                 exact rfl)
              | (fail_if_success with_reducible apply stopA
                 fail_if_success with_reducible apply stopE
                 fail_if_success with_reducible apply stopF
                 fail_if_success with_reducible apply Exists.intro
                 fail_if_success with_reducible intro _
                 fail_if_success with_reducible apply stopK
                 fail_if_success with_reducible apply stopL
                 conv => whnf)))
            all_goals (try with_reducible refine Ask.mk ?_)
            all_goals (try first | exact trivial | exact fun _ => trivial)
            all_goals (try dsimp only)
            all_goals (try (simp only [inK]; omega))
            all_goals (try (simp at h; omega))
            · simp at h
              have e1 : ((k : Int) - 1).toNat = k - 1 := by omega
              rw [e1, Int.toNat_natCast]
              have q1 := any_get (i := k - 1) (by omega) hi5
              have q2 := any_get (i := k) (by omega) hi5
              simp only [patBadN, Bool.or_eq_false_iff, Bool.not_eq_false', decide_eq_true_eq] at q1 q2
              have c1 := neErr_cell hi2 q1.1
              have c2 := neErr_cell hi2 q2.1
              refine ⟨by simp only [inK]; omega, hp.2 _ (mem_getD (by omega)), hp.2 _ (mem_getD (by omega))⟩
            all_goals (have e1 : ((k : Int) - 1).toNat = k - 1 := by omega)
            all_goals (have e2 : k - 1 + 1 = k := by omega)
            · rename_i h1; simp at h1
              simp only [e1, Int.toNat_natCast] at h
              have hb : patBadO p (k - 1) = true := by simp only [patBadO, e2]; exact h
              have : (List.range (p.l.length - 1)).any (patBadO p) = true := List.any_eq_true.2 ⟨k - 1, List.mem_range.2 (by omega), hb⟩
              rw [patErr, if_pos hi2, if_neg (by simp [hi3]), if_neg (by simp [hi5]), if_pos this]
            · rename_i h1; simp at h1
              simp only [e1, Int.toNat_natCast] at h
              have hb : patBadO p (k - 1) = false := by simp only [patBadO, e2]; exact h
              refine ⟨k + 1, ⟨by omega, by omega, hi2, hi3, hi5, fun j hj => ?_⟩, by omega, ?_⟩
              · by_cases e : j = k - 1
                · subst e; exact hb
                · exact k3 j (by omega)
              · repeat (any_goals (first
                  | (with_reducible refine And.intro (Ask.mk ?_) ?_
                     first | exact trivial | exact fun _ => trivial)
                  | with_reducible refine And.intro ?_ ?_
                  | with_reducible refine Br.mk (fun h => ?_) (fun h => ?_)
                  | with_reducible exact True.intro
                  | (with_reducible refine Late.mk ?_
                     exact rfl)
                  | (fail_if_success with_reducible apply stopA
                     fail_if_success with_reducible apply stopE
                     fail_if_success with_reducible apply stopF
                     fail_if_success with_reducible apply Exists.intro
                     fail_if_success with_reducible intro _
                     fail_if_success with_reducible apply stopK
                     fail_if_success with_reducible apply stopL
                     conv => whnf)))
                all_goals (try with_reducible refine Ask.mk ?_)
                all_goals (try first | exact trivial | exact fun _ => trivial)
                all_goals (try dsimp only)
                all_goals first | rfl | exact fun _ _ => rfl | omega
            · simp at h
              have : (List.range (p.l.length - 1)).any (patBadO p) = false := by
                rw [List.any_eq_false]
                intro j hj
                have := k3 j (by have := List.mem_range.1 hj; omega)
                simp [this]
              rw [patErr, if_pos hi2, if_neg (by simp [hi3]), if_neg (by simp [hi5]), if_neg (by simp [this])]

end Go.Proofs.YthfkpmobmnfgcaaDoor.V

/-
  Contract: the image of a pattern. Conditions: none.
-/
namespace Go.Proofs.YthfkpmobmnfgcaaDoor.V
open Go

/-- A valid pattern whose edges are read at their kind. -/
def okP (p : Pt) : Prop := patErr p = 0 ∧ p.l.length ≤ 100000 ∧ ∀ c ∈ p.l, inK .u8 c.e
def imgCr (W H t : Int) (c : Cr) : Cr :=
  ⟨min (imF W H t c.c) (imF W H t (neVal W H c.c c.e)), edgeF W H (min (imF W H t c.c) (imF W H t (neVal W H c.c c.e))) (max (imF W H t c.c) (imF W H t (neVal W H c.c c.e))), if t > 3 ∧ c.k ≠ 3 then 3 - c.k else c.k⟩
def undF (p : Pt) (t : Int) : Pt := ⟨p.W, p.H, sortCr (p.l.map (imgCr p.W p.H t))⟩

theorem idErr_ce {W H X Y Q : Int} (hQ : 0 ≤ Q) (h : idErr W H X Y Q = 0) : ceErr W H (idVal W H X Y Q) = 0 ∧ idVal W H X Y Q / 4 % W = X ∧ idVal W H X Y Q / 4 / W = Y ∧ idVal W H X Y Q % 4 = Q ∧ 0 ≤ idVal W H X Y Q ∧ idVal W H X Y Q < 1024 := by
  have hv : idVal W H X Y Q = 4 * (Y * W + X) + Q := by rw [idVal, if_pos h]
  unfold idErr at h
  split at h
  rotate_left
  · cases h
  rename_i hs
  split at h
  rotate_left
  · cases h
  rename_i hc
  obtain ⟨hc, h1, h2, h3, h4⟩ := hc
  have hq := (clErr_zero hc).2.2.2.2
  have b := id_le hs h1 h2 h3 h4
  obtain ⟨a1, a2, a3, a4, a5, a6, a7⟩ := shErr_zero hs
  rw [hv]
  have e1 : (4 * (Y * W + X) + Q) / 4 = Y * W + X := by omega
  refine ⟨?_, ?_, ?_, by omega, by omega, by omega⟩
  · have hb : hasB W H (4 * (Y * W + X) + Q) = true := by simp [hasB]; omega
    rw [ceErr, if_pos hs, if_pos hb]
  · rw [e1, Int.mul_comm, Int.add_comm, Int.add_mul_emod_self_left]
    exact Int.emod_eq_of_lt h1 h2
  · rw [e1, Int.add_comm, Int.add_mul_ediv_right _ _ (by omega), Int.ediv_eq_zero_of_lt h1 h2]
    omega
theorem ne_ce {W H i e : Int} (he : 0 ≤ e) (h : neErr W H i e = 0) : ceErr W H i = 0 ∧ ceErr W H (neVal W H i e) = 0 := by
  have hc : ceErr W H i = 0 := by
    unfold neErr at h
    split at h
    · assumption
    · exact h
  refine ⟨hc, ?_⟩
  unfold neErr at h
  rw [if_pos hc] at h
  split at h
  rotate_left
  · cases h
  rename_i hn
  rw [neVal, if_pos hc, if_pos hn]
  exact (idErr_ce (nbQ_le (ceQ_le W H i).1 he).1 h).1
theorem ok_cr {p : Pt} (h : okP p) {c : Cr} (hc : c ∈ p.l) : shErr p.W p.H = 0 ∧ neErr p.W p.H c.c c.e = 0 ∧ 1 ≤ c.k ∧ c.k ≤ 3 ∧ c.c ≤ neVal p.W p.H c.c c.e ∧ 0 ≤ c.e ∧ inK .u8 c.e := by
  obtain ⟨h1, h2, h3⟩ := h
  have he : inK .u8 c.e := h3 c hc
  have he0 : 0 ≤ c.e := by simp only [inK] at he; omega
  unfold patErr at h1
  split at h1
  rotate_left
  · cases h1
  rename_i hs
  split at h1
  · cases h1
  rename_i hk
  split at h1
  · cases h1
  rename_i hn
  have k1 : badK c = false := by
    have : p.l.any badK = false := by simpa using hk
    have := List.any_eq_false.1 this c hc
    simpa using this
  have n1 : patBadN p c = false := by
    have : p.l.any (patBadN p) = false := by simpa using hn
    have := List.any_eq_false.1 this c hc
    simpa using this
  simp only [patBadN, Bool.or_eq_false_iff, Bool.not_eq_false', decide_eq_true_eq, Bool.and_eq_true, and_true] at n1
  obtain ⟨n1, n2, n3⟩ := n1
  simp only [badK, isKB, Bool.not_eq_false', Bool.and_eq_true, decide_eq_true_eq] at k1
  rw [nmCell, if_pos n1] at n2
  exact ⟨hs, n1, k1.1, k1.2, by omega, he0, he⟩

def undRow (p : Pt) (t : Int) (i j : Nat) : List SV := crSV (if j < i then imgCr p.W p.H t (p.l.getD j d0) else d0)
theorem undRow_step {p : Pt} {t : Int} {i : Nat} {k : Int} (hk : k = if t > 3 ∧ (p.l.getD i d0).k ≠ 3 then 3 - (p.l.getD i d0).k else (p.l.getD i d0).k) (j : Nat) :
    (if j = i then over (undRow p t i i) 0 [SV.int .i64 (imgCr p.W p.H t (p.l.getD i d0)).c, SV.int .u8 (imgCr p.W p.H t (p.l.getD i d0)).e, SV.int .u8 k] else undRow p t i j) = undRow p t (i + 1) j := by
  by_cases e : j = i
  · subst e
    rw [if_pos rfl, undRow, undRow, if_neg (by omega), if_pos (by omega), hk]
    rfl
  · rw [if_neg e, undRow, undRow]
    by_cases h : j < i
    · rw [if_pos h, if_pos (by omega)]
    · rw [if_neg h, if_neg (by omega)]
theorem undRow_end (p : Pt) (t : Int) : crL p.l.length (undRow p t p.l.length) = p.l.map (imgCr p.W p.H t) := by
  apply List.ext_getElem?
  intro i
  by_cases hi : i < p.l.length
  · simp [crL, undRow, hi, crSV, crOf, List.getD_eq_getElem?_getD]
  · simp at hi
    rw [List.getElem?_eq_none (by rw [crL_length]; exact hi), List.getElem?_eq_none (by simpa using hi)]
def IUnder (p : Pt) (t : Int) : Nat → Option Inv
  | 3 => some { β := Nat, ok := fun i => i ≤ p.l.length, st := fun i => ⟨[⟨23, none, .int .i64 i⟩, ⟨22, none, .int .i64 p.l.length⟩, ⟨21, none, .sl 3 p.l.length (rowOf p.l) none⟩, ⟨5, none, .own 3 0⟩, ⟨4, none, .own 1 0⟩, ⟨2, none, .own 0 0⟩, ⟨1, none, .int .i64 t⟩], [.cells 29 [.int .i64 p.W, .int .i64 p.H, .sl 3 p.l.length (rowOf p.l) none], .cells 29 [.int .i64 0, .int .i64 0, .con (Value.slice none 0 0)], .row 55 3 p.l.length (undRow p t i) (some p.l.length), .cells 29 [.int .i64 p.W, .int .i64 p.H, .osl 2]]⟩, μ := fun i => p.l.length - i }
  | _ => none
abbrev nUnder : FuncId := 22
def kUnder : Kon
  | [x, .int .i64 t] => match asPat x with
    | some (a, p) => some (a ∧ okP p ∧ 0 ≤ t ∧ t ≤ 7 ∧ (t % 2 = 0 ∨ p.W = p.H), .agg [.int .i64 p.W, .int .i64 p.H, .sl 3 p.l.length (rowOf (undF p t).l) (some p.l.length)])
    | none => none
  | _ => none
def FUnder : Fam := ⟨Pt × Int, fun (p, t) => [patSV p, .int .i64 t], fun (p, t) => okP p ∧ 0 ≤ t ∧ t ≤ 7 ∧ (t % 2 = 0 ∨ p.W = p.H), fun (p, t) => .agg [.int .i64 p.W, .int .i64 p.H, .sl 3 p.l.length (rowOf (undF p t).l) (some p.l.length)]⟩
set_option maxRecDepth 100000 in
theorem pUnder : PS nUnder kUnder := by
  refine conX [(nNeighbour, kNeighbour), (nImage, kImage), (nFEdge, kFEdge)] (by simpa using ⟨pNeighbour, pImage, pFEdge⟩) [(nSortCr, eSortCr)] (by simpa using xSortCr) (fun _ => false) FUnder (fun (p, t) => IUnder p t) kUnder ?_ ?_ Go.Proofs.Tryd.func22 (by kernel_rfl) (by kernel_rfl) (by kernel_rfl) ?_
  · intro args pre s h hp
    unfold kUnder at h
    split at h
    · split at h
      · rename_i x t _ a p hx
        cases h
        exact ⟨(p, t), ⟨(asPat_le hx hp.1).1, by simp [SV.le2, SV.le1, SV.le0], trivial⟩, hp.2, rfl⟩
      · cases h
    · cases h
  · intro i; show 2 ≤ _; decide
  · rintro ⟨p, t⟩ hp
    replace hp : okP p ∧ 0 ≤ t ∧ t ≤ 7 ∧ (t % 2 = 0 ∨ p.W = p.H) := hp
    obtain ⟨⟨ho, hlen, hcr⟩, h0, h7, hW⟩ := hp
    repeat (any_goals (first
      | (with_reducible refine And.intro (Ask.mk ?_) ?_
         first | exact trivial | exact fun _ => trivial)
      | with_reducible refine And.intro ?_ ?_
      | with_reducible refine Br.mk (fun h => ?_) (fun h => ?_)
      | with_reducible exact True.intro
      | (with_reducible refine Late.mk ?_
         exact rfl)
      | (fail_if_success with_reducible apply stopA
         fail_if_success with_reducible apply stopE
         fail_if_success with_reducible apply stopF
         fail_if_success with_reducible apply Exists.intro
         fail_if_success with_reducible intro _
         fail_if_success with_reducible apply stopK
         fail_if_success with_reducible apply stopL
         conv => whnf)))
    all_goals (try with_reducible refine Ask.mk ?_)
    all_goals (try first | exact trivial | exact fun _ => trivial)
    all_goals (try dsimp only)
    · show 0 ≤ (p.l.length : Int) ∧ (p.l.length : Int) ≤ p.l.length ∧ (8 + 8 : Int) * p.l.length ≤ 281474976710656 ∧ (p.l.length : Int) ≤ 9223372036854775807
      omega
    · refine ⟨(0 : Nat), by omega, ?_, ?_⟩
      · repeat (any_goals (first
          | (with_reducible refine And.intro (Ask.mk ?_) ?_
             first | exact trivial | exact fun _ => trivial)
          | with_reducible refine And.intro ?_ ?_
          | with_reducible refine Br.mk (fun h => ?_) (fun h => ?_)
          | with_reducible exact True.intro
          | (with_reducible refine Late.mk ?_
             exact rfl)
          | (fail_if_success with_reducible apply stopA
             fail_if_success with_reducible apply stopE
             fail_if_success with_reducible apply stopF
             fail_if_success with_reducible apply Exists.intro
             fail_if_success with_reducible intro _
             fail_if_success with_reducible apply stopK
             fail_if_success with_reducible apply stopL
             conv => whnf)))
        all_goals (try with_reducible refine Ask.mk ?_)
        all_goals (try first | exact trivial | exact fun _ => trivial)
        all_goals (try dsimp only)
        all_goals (first | rfl | exact fun _ _ => rfl | skip)
      · intro i hi
        replace hi : i ≤ p.l.length := hi
        have hok : i < p.l.length → shErr p.W p.H = 0 ∧ neErr p.W p.H (p.l.getD i d0).c (p.l.getD i d0).e = 0 ∧ 1 ≤ (p.l.getD i d0).k ∧ (p.l.getD i d0).k ≤ 3 ∧ (p.l.getD i d0).c ≤ neVal p.W p.H (p.l.getD i d0).c (p.l.getD i d0).e ∧ 0 ≤ (p.l.getD i d0).e ∧ inK .u8 (p.l.getD i d0).e := fun h => ok_cr ⟨ho, hlen, hcr⟩ (mem_getD h)
        have hz : (↑i : Int).toNat = i := Int.toNat_natCast i
        repeat (any_goals (first
          | (with_reducible refine And.intro (Ask.mk ?_) ?_
             first | exact trivial | exact fun _ => trivial)
          | with_reducible refine And.intro ?_ ?_
          | with_reducible refine Br.mk (fun h => ?_) (fun h => ?_)
          | with_reducible exact True.intro
          | (with_reducible refine Late.mk ?_
             exact rfl)
          | (fail_if_success with_reducible apply stopA
             fail_if_success with_reducible apply stopE
             fail_if_success with_reducible apply stopF
             fail_if_success with_reducible apply Exists.intro
             fail_if_success with_reducible intro _
             fail_if_success with_reducible apply stopK
             fail_if_success with_reducible apply stopL
             conv => whnf)))
        all_goals (try with_reducible refine Ask.mk ?_)
        all_goals (try first | exact trivial | exact fun _ => trivial)
        all_goals (try dsimp only)
        all_goals (try simp only [hz])
        all_goals (try (simp at h; omega))
        all_goals (try (simp only [inK]; omega))
        all_goals (try (rename_i h0' ; simp at h0'; omega))
        · simp at h
          exact ⟨(ne_ce (hok h).2.2.2.2.2.1 (hok h).2.1).1, h0, h7, hW⟩
        · simp at h
          exact ⟨(ne_ce (hok h).2.2.2.2.2.1 (hok h).2.1).2, h0, h7, hW⟩
        · rename_i h1; simp at h1
          have := hok h1
          simp only [inK]; omega
        · rename_i h1; simp at h1
          refine ⟨i + 1, by omega, by omega, ?_⟩
          repeat (any_goals (first
            | (with_reducible refine And.intro (Ask.mk ?_) ?_
               first | exact trivial | exact fun _ => trivial)
            | with_reducible refine And.intro ?_ ?_
            | with_reducible refine Br.mk (fun h => ?_) (fun h => ?_)
            | with_reducible exact True.intro
            | (with_reducible refine Late.mk ?_
               exact rfl)
            | (fail_if_success with_reducible apply stopA
               fail_if_success with_reducible apply stopE
               fail_if_success with_reducible apply stopF
               fail_if_success with_reducible apply Exists.intro
               fail_if_success with_reducible intro _
               fail_if_success with_reducible apply stopK
               fail_if_success with_reducible apply stopL
               conv => whnf)))
          all_goals (try with_reducible refine Ask.mk ?_)
          all_goals (try first | exact trivial | exact fun _ => trivial)
          all_goals (try dsimp only)
          all_goals (first | rfl | exact fun _ _ => rfl | skip)
          exact fun j _ => undRow_step (by rw [if_pos (by simp at h; exact h)]) j
        · rename_i h1; simp at h1
          refine ⟨i + 1, by omega, by omega, ?_⟩
          repeat (any_goals (first
            | (with_reducible refine And.intro (Ask.mk ?_) ?_
               first | exact trivial | exact fun _ => trivial)
            | with_reducible refine And.intro ?_ ?_
            | with_reducible refine Br.mk (fun h => ?_) (fun h => ?_)
            | with_reducible exact True.intro
            | (with_reducible refine Late.mk ?_
               exact rfl)
            | (fail_if_success with_reducible apply stopA
               fail_if_success with_reducible apply stopE
               fail_if_success with_reducible apply stopF
               fail_if_success with_reducible apply Exists.intro
               fail_if_success with_reducible intro _
               fail_if_success with_reducible apply stopK
               fail_if_success with_reducible apply stopL
               conv => whnf)))
          all_goals (try with_reducible refine Ask.mk ?_)
          all_goals (try first | exact trivial | exact fun _ => trivial)
          all_goals (try dsimp only)
          all_goals (first | rfl | exact fun _ _ => rfl | skip)
          exact fun j _ => undRow_step (by rw [if_neg (by simp at h; exact fun q => q.2 (h q.1))]) j
        · exact ⟨fun _ _ => rfl, hlen⟩
        · simp at h
          have e : i = p.l.length := by omega
          subst e
          intro j _
          rw [undRow_end]
          rfl

end Go.Proofs.YthfkpmobmnfgcaaDoor.V

/-
  Contracts: the images of a pattern. Conditions: none.
-/
namespace Go.Proofs.YthfkpmobmnfgcaaDoor.V
open Go

/-- Slices of patterns. -/
def dP : Pt := ⟨0, 0, []⟩
def pRow (p : Pt) : List SV := [.int .i64 p.W, .int .i64 p.H, .sl 3 p.l.length (rowOf p.l) (some p.l.length)]
def pRows (l : List Pt) (i : Nat) : List SV := pRow (l.getD i dP)
def turnsTo (sq : Bool) (i : Nat) : List Nat := (List.range i).filter fun t => t % 2 == 0 || sq
def imgsTo (p : Pt) (i : Nat) : List Pt := (turnsTo (decide (p.W = p.H)) i).map fun (t : Nat) => undF p (t : Int)
def imgs (p : Pt) : List Pt := imgsTo p 8
theorem undF_length (p : Pt) (t : Int) : (undF p t).l.length = p.l.length := by simp [undF, sortCr_length]

abbrev nClip : FuncId := 23
def kClip : Kon
  | [.sl 3 n f _] => some (n ≤ 100000, .sl 3 n f (some n))
  | _ => none
def FClip : Fam := ⟨Nat × (Nat → List SV), fun (n, f) => [.sl 3 n f none], fun (n, _) => n ≤ 100000, fun (n, f) => .sl 3 n f (some n)⟩
set_option maxRecDepth 100000 in
theorem pClip : PS nClip kClip := by
  refine con [] (by simp) FClip (fun _ _ => none) kClip ?_ ?_ Go.Proofs.Tryd.func23 (by kernel_rfl) (by kernel_rfl) (by kernel_rfl) ?_
  · intro args pre s h hp
    unfold kClip at h
    split at h
    · rename_i n f c
      cases h
      exact ⟨(n, f), ⟨le2_sl (by simp [SV.le0, capLe]), trivial⟩, hp, rfl⟩
    · cases h
  · intro i; show 1 ≤ _; decide
  · rintro ⟨n, f⟩ hp
    replace hp : n ≤ 100000 := hp
    repeat (any_goals (first
      | (with_reducible refine And.intro (Ask.mk ?_) ?_
         first | exact trivial | exact fun _ => trivial)
      | with_reducible refine And.intro ?_ ?_
      | with_reducible refine Br.mk (fun h => ?_) (fun h => ?_)
      | with_reducible exact True.intro
      | (with_reducible refine Late.mk ?_
         exact rfl)
      | (fail_if_success with_reducible apply stopA
         fail_if_success with_reducible apply stopE
         fail_if_success with_reducible apply stopF
         fail_if_success with_reducible apply Exists.intro
         fail_if_success with_reducible intro _
         fail_if_success with_reducible apply stopK
         fail_if_success with_reducible apply stopL
         conv => whnf)))
    all_goals (try with_reducible refine Ask.mk ?_)
    all_goals (try first | exact trivial | exact fun _ => trivial)
    all_goals (try dsimp only)
    · exact ⟨rfl, by omega, by omega, by omega, by omega⟩
    · omega
    · show some ((n : Int) - 0).toNat = some n
      congr 1
    · intro i hi
      congr 1
      simp

def imgsE (p : Pt) : List Pt := if patErr p = 0 then imgs p else []
theorem turnsTo_succ (sq : Bool) (i : Nat) : turnsTo sq (i + 1) = if i % 2 = 0 ∨ sq = true then turnsTo sq i ++ [i] else turnsTo sq i := by
  unfold turnsTo
  rw [List.range_succ, List.filter_append]
  by_cases h : i % 2 = 0 ∨ sq = true
  · rw [if_pos h]
    congr 1
    rcases h with h | h <;> simp [h]
  · rw [if_neg h]
    simp only [not_or] at h
    simp [h.1, h.2]
theorem imgsTo_yes {p : Pt} {i : Nat} (h : i % 2 = 0 ∨ p.W = p.H) : imgsTo p (i + 1) = imgsTo p i ++ [undF p i] := by
  unfold imgsTo
  rw [turnsTo_succ, if_pos (by simpa using h), List.map_append]
  rfl
theorem imgsTo_no {p : Pt} {i : Nat} (h : ¬ (i % 2 = 0 ∨ p.W = p.H)) : imgsTo p (i + 1) = imgsTo p i := by
  unfold imgsTo
  rw [turnsTo_succ, if_neg (by simpa using h)]
theorem imgsTo_le (p : Pt) (i : Nat) : (imgsTo p i).length ≤ i := by
  unfold imgsTo turnsTo
  rw [List.length_map]
  exact Nat.le_trans (List.length_filter_le _ _) (by simp)

abbrev nImages : FuncId := 9
def imagesSV (p : Pt) : SV := .tup [.sl 3 (imgsE p).length (pRows (imgsE p)) (some (imgsE p).length), .int .i64 (patErr p)]
def kImages : Kon
  | [x] => match asPat x with
    | some (a, p) => some (a ∧ ∀ c ∈ p.l, inK .u8 c.e, imagesSV p)
    | none => none
  | _ => none
def FImages : Fam := ⟨Pt, fun p => [patSV p], fun p => p.l.length ≤ 100000 ∧ ∀ c ∈ p.l, inK .u8 c.e, imagesSV⟩
def IImages (p : Pt) : Nat → Option Inv
  | 6 => some { β := Nat, ok := fun i => i ≤ 8, nl := [.slot 5 29 3], st := fun i => ⟨[⟨12, none, .int .i64 i⟩, ⟨5, none, .osl 1⟩, ⟨1, none, .own 0 0⟩], [.cells 29 [.int .i64 p.W, .int .i64 p.H, .sl 3 p.l.length (rowOf p.l) none], .row 29 3 (imgsTo p i).length (pRows (imgsTo p i)) none]⟩, μ := fun i => 8 - i }
  | _ => none
set_option maxRecDepth 100000 in
theorem pImages : PS nImages kImages := by
  refine conX [(nPCheck, kPCheck), (nUnder, kUnder), (nClip, kClip)] (by simpa using ⟨pPCheck, pUnder, pClip⟩) [] (by simp) (fun d => d == 35) FImages (fun p => IImages p) kImages ?_ ?_ Go.Proofs.Tryd.func9 (by kernel_rfl) (by kernel_rfl) (by kernel_rfl) ?_
  · intro args pre s h hp
    unfold kImages at h
    split at h
    · split at h
      · rename_i x _ a p hx
        cases h
        exact ⟨p, ⟨(asPat_le hx hp.1).1, trivial⟩, ⟨(asPat_le hx hp.1).2, hp.2⟩, rfl⟩
      · cases h
    · cases h
  · intro i; show 1 ≤ _; decide
  · intro (p : Pt) hp
    replace hp : p.l.length ≤ 100000 ∧ ∀ c ∈ p.l, inK .u8 c.e := hp
    obtain ⟨hlen, hcr⟩ := hp
    repeat (any_goals (first
      | (with_reducible refine And.intro (Ask.mk ?_) ?_
         first | exact trivial | exact fun _ => trivial)
      | with_reducible refine And.intro ?_ ?_
      | with_reducible refine Br.mk (fun h => ?_) (fun h => ?_)
      | with_reducible exact True.intro
      | (with_reducible refine Late.mk ?_
         exact rfl)
      | (fail_if_success with_reducible apply stopA
         fail_if_success with_reducible apply stopE
         fail_if_success with_reducible apply stopF
         fail_if_success with_reducible apply Exists.intro
         fail_if_success with_reducible intro _
         fail_if_success with_reducible apply stopK
         fail_if_success with_reducible apply stopL
         conv => whnf)))
    all_goals (try with_reducible refine Ask.mk ?_)
    all_goals (try first | exact trivial | exact fun _ => trivial)
    all_goals (try dsimp only)
    · exact ⟨⟨isCr_rowOf _, hlen⟩, by rw [crL_rowOf]; exact hcr⟩
    · rw [crL_rowOf] at h; simp at h; simp [imgsE, h]
    · rw [crL_rowOf] at h; simp at h; simp [imgsE, h]
    · rw [crL_rowOf]
    · rw [crL_rowOf] at h; simp at h
      have hE : imgsE p = imgsTo p 8 := by rw [imgsE, if_pos h]; rfl
      refine ⟨(0 : Nat), by omega, ?_, ?_⟩
      · repeat (any_goals (first
          | (with_reducible refine And.intro (Ask.mk ?_) ?_
             first | exact trivial | exact fun _ => trivial)
          | with_reducible refine And.intro ?_ ?_
          | with_reducible refine Br.mk (fun h => ?_) (fun h => ?_)
          | with_reducible exact True.intro
          | (with_reducible refine Late.mk ?_
             exact rfl)
          | (fail_if_success with_reducible apply stopA
             fail_if_success with_reducible apply stopE
             fail_if_success with_reducible apply stopF
             fail_if_success with_reducible apply Exists.intro
             fail_if_success with_reducible intro _
             fail_if_success with_reducible apply stopK
             fail_if_success with_reducible apply stopL
             conv => whnf)))
        all_goals (try with_reducible refine Ask.mk ?_)
        all_goals (try first | exact trivial | exact fun _ => trivial)
        all_goals (try dsimp only)
        all_goals first | rfl | exact fun _ _ => rfl | skip
        exact fun j hj => absurd hj (by omega)
      · intro i hi
        replace hi : i ≤ 8 := hi
        have hl := imgsTo_le p i
        have hm : (↑i : Int).tmod 2 = (i : Int) % 2 := Int.tmod_eq_emod_of_nonneg (by omega)
        have hrow : ∀ {i : Nat} {q : Pt}, (imgsTo p (i + 1) = imgsTo p i ++ [q]) → ∀ j, j < (imgsTo p i).length + 1 → (if j < (imgsTo p i).length then pRows (imgsTo p i) j else pRow q) = pRows (imgsTo p (i + 1)) j := by
          intro i q e j hj
          rw [e, pRows, pRows]
          split
          · rename_i h1; simp [List.getD_eq_getElem?_getD, h1, List.getElem?_append_left h1]
          · rename_i h1
            have : j = (imgsTo p i).length := by omega
            subst this
            simp [List.getD_eq_getElem?_getD]
        repeat (any_goals (first
          | (with_reducible refine And.intro (Ask.mk ?_) ?_
             first | exact trivial | exact fun _ => trivial)
          | with_reducible refine And.intro ?_ ?_
          | with_reducible refine Br.mk (fun h => ?_) (fun h => ?_)
          | with_reducible exact True.intro
          | (with_reducible refine Late.mk ?_
             exact rfl)
          | (fail_if_success with_reducible apply stopA
             fail_if_success with_reducible apply stopE
             fail_if_success with_reducible apply stopF
             fail_if_success with_reducible apply Exists.intro
             fail_if_success with_reducible intro _
             fail_if_success with_reducible apply stopK
             fail_if_success with_reducible apply stopL
             conv => whnf)))
        all_goals (try with_reducible refine Ask.mk ?_)
        all_goals (try first | exact trivial | exact fun _ => trivial)
        all_goals (try dsimp only)
        all_goals (try simp only [crL_rowOf, hm] at *)
        all_goals (try (simp only [inK]; omega))
        all_goals (try (simp at h; omega))
        · rename_i h1; simp at h1
          exact ⟨⟨isCr_rowOf _, hlen⟩, ⟨by assumption, hlen, hcr⟩, by omega, by omega, by simp at h; omega⟩
        · show (imgsTo p i).length + 1 ≤ 9223372036854775807 ∧ ((imgsTo p i).length + 1) * 40 ≤ 140737488355328
          omega
        · rename_i h1; simp at h1
          have e := imgsTo_yes (p := p) (i := i) (by simp at h; omega)
          refine ⟨i + 1, by omega, by omega, ?_⟩
          repeat (any_goals (first
            | (with_reducible refine And.intro (Ask.mk ?_) ?_
               first | exact trivial | exact fun _ => trivial)
            | with_reducible refine And.intro ?_ ?_
            | with_reducible refine Br.mk (fun h => ?_) (fun h => ?_)
            | with_reducible exact True.intro
            | (with_reducible refine Late.mk ?_
               exact rfl)
            | (fail_if_success with_reducible apply stopA
               fail_if_success with_reducible apply stopE
               fail_if_success with_reducible apply stopF
               fail_if_success with_reducible apply Exists.intro
               fail_if_success with_reducible intro _
               fail_if_success with_reducible apply stopK
               fail_if_success with_reducible apply stopL
               conv => whnf)))
          all_goals (try with_reducible refine Ask.mk ?_)
          all_goals (try first | exact trivial | exact fun _ => trivial)
          all_goals (try dsimp only)
          all_goals first | rfl | exact fun _ _ => rfl | skip
          · rw [e, List.length_append]; rfl
          · intro j hj
            rw [← hrow e j hj]
            split
            · rfl
            · have : j = (imgsTo p i).length := by omega
              subst this
              have ep : ({ W := p.W, H := p.H, l := p.l } : Pt) = p := rfl
              simp [pRow, undF_length]
              exact ⟨rfl, rfl⟩
        · rename_i h1; simp at h1
          have e := imgsTo_no (p := p) (i := i) (by simp at h; omega)
          refine ⟨i + 1, by omega, by omega, ?_⟩
          rw [e]
          repeat (any_goals (first
            | (with_reducible refine And.intro (Ask.mk ?_) ?_
               first | exact trivial | exact fun _ => trivial)
            | with_reducible refine And.intro ?_ ?_
            | with_reducible refine Br.mk (fun h => ?_) (fun h => ?_)
            | with_reducible exact True.intro
            | (with_reducible refine Late.mk ?_
               exact rfl)
            | (fail_if_success with_reducible apply stopA
               fail_if_success with_reducible apply stopE
               fail_if_success with_reducible apply stopF
               fail_if_success with_reducible apply Exists.intro
               fail_if_success with_reducible intro _
               fail_if_success with_reducible apply stopK
               fail_if_success with_reducible apply stopL
               conv => whnf)))
          all_goals (try with_reducible refine Ask.mk ?_)
          all_goals (try first | exact trivial | exact fun _ => trivial)
          all_goals (try dsimp only)
          all_goals first | rfl | exact fun _ _ => rfl | skip
        all_goals (simp at h; have e8 : i = 8 := by omega)
        all_goals subst e8
        all_goals (try rw [hE])
        · exact fun _ _ => rfl
        · rename_i h1; exact h1.symm

end Go.Proofs.YthfkpmobmnfgcaaDoor.V

/-
  Contracts: the least image, the symmetries, which patterns are alike. Conditions: none.
-/
namespace Go.Proofs.YthfkpmobmnfgcaaDoor.V
open Go

theorem ptEta (p : Pt) : ({ W := p.W, H := p.H, l := crL p.l.length (rowOf p.l) } : Pt) = p := by rw [crL_rowOf]
def ptOf : List SV → Pt
  | [.int _ W, .int _ H, .sl _ n g _] => ⟨W, H, crL n g⟩
  | _ => dP
def isP (n : Nat) (f : Nat → List SV) : Prop := ∀ i, i < n → f i = pRow (ptOf (f i))
def ptL (n : Nat) (f : Nat → List SV) : List Pt := (List.range n).map fun i => ptOf (f i)
theorem ptOf_pRow (p : Pt) : ptOf (pRow p) = p := by
  simp [ptOf, pRow, crL_rowOf]
theorem isP_pRows (l : List Pt) : isP l.length (pRows l) := fun i _ => by rw [pRows, ptOf_pRow]
theorem ptL_pRows (l : List Pt) : ptL l.length (pRows l) = l := by
  apply List.ext_getElem?
  intro i
  by_cases hi : i < l.length
  · simp [ptL, pRows, ptOf_pRow, hi, List.getD_eq_getElem?_getD]
  · simp at hi; simp [ptL, hi]
theorem ptL_length (n : Nat) (f : Nat → List SV) : (ptL n f).length = n := by simp [ptL]
theorem pRows_ptL {n : Nat} {f : Nat → List SV} (h : isP n f) : ∀ i, i < n → f i = pRows (ptL n f) i := by
  intro i hi
  rw [h i hi]
  simp [pRows, ptL, List.getD_eq_getElem?_getD, hi]

def minP : List Pt → Pt
  | [] => dP
  | x :: r => r.foldl (fun m q => if cmpP q m < 0 then q else m) x
theorem minP_take {l : List Pt} {i : Nat} (h0 : 1 ≤ i) (hi : i < l.length) : minP (l.take (i + 1)) = if cmpP (l.getD i dP) (minP (l.take i)) < 0 then l.getD i dP else minP (l.take i) := by
  have : l.take (i + 1) = l.take i ++ [l.getD i dP] := by
    rw [List.take_add_one]
    simp [List.getD_eq_getElem?_getD, hi]
  rw [this]
  match h : l.take i with
  | [] =>
    simp at h
    rcases h with h | h
    · omega
    · subst h; simp at hi
  | x :: r => simp [minP]

abbrev nMin : FuncId := 28
def kMin : Kon
  | [.sl 3 n f _, .clo g []] => if g = nPCompare then some (isP n f ∧ 1 ≤ n ∧ n ≤ 1000 ∧ ∀ q ∈ ptL n f, q.l.length ≤ 100000, .agg (pRow (minP (ptL n f)))) else none
  | _ => none
def FMin : Fam := ⟨List Pt, fun l => [.sl 3 l.length (pRows l) none, .clo nPCompare []], fun l => 1 ≤ l.length ∧ l.length ≤ 1000 ∧ ∀ q ∈ l, q.l.length ≤ 100000, fun l => .agg (pRow (minP l))⟩
def IMin (l : List Pt) : Nat → Option Inv
  | 5 => some { β := Nat, ok := fun i => 1 ≤ i ∧ i ≤ l.length, st := fun i => ⟨[⟨6, none, .int .i64 i⟩, ⟨5, none, .own 1 0⟩, ⟨4, none, .own 0 0⟩, ⟨0, none, .sl 3 l.length (pRows l) none⟩, ⟨1, none, .clo nPCompare []⟩], [.cells 29 [.int .i64 0, .int .i64 0, .con (Value.slice none 0 0)], .cells 29 (pRow (minP (l.take i)))]⟩, μ := fun i => l.length - i }
  | _ => none
theorem asCr_row (p : Pt) : isCr p.l.length (rowOf p.l) := isCr_rowOf _
theorem mem_getP {l : List Pt} {i : Nat} (hi : i < l.length) : l.getD i dP ∈ l := by
  simp [List.getD_eq_getElem?_getD, hi]
theorem minP_mem : ∀ {l : List Pt}, l ≠ [] → minP l ∈ l := by
  have key : ∀ (r : List Pt) (x : Pt), r.foldl (fun m q => if cmpP q m < 0 then q else m) x = x ∨ r.foldl (fun m q => if cmpP q m < 0 then q else m) x ∈ r := by
    intro r
    induction r with
    | nil => intro x; exact .inl rfl
    | cons y r ih =>
      intro x
      simp only [List.foldl_cons]
      rcases ih (if cmpP y x < 0 then y else x) with h | h
      · rw [h]
        split
        · exact .inr (by simp)
        · exact .inl rfl
      · exact .inr (by simp [h])
  intro l hl
  match l, hl with
  | x :: r, _ =>
    rcases key r x with h | h
    · simp only [minP, h]; simp
    · simp only [minP]; exact List.mem_cons_of_mem _ h
set_option maxRecDepth 100000 in
theorem pMin : PS nMin kMin := by
  refine con [(nPCompare, kPCompare)] (by simpa using pPCompare) FMin (fun l => IMin l) kMin ?_ ?_ Go.Proofs.Tryd.func28 (by kernel_rfl) (by kernel_rfl) (by kernel_rfl) ?_
  · intro args pre s h hp
    unfold kMin at h
    split at h
    · split at h
      · rename_i n f c g hg
        subst hg
        cases h
        refine ⟨ptL n f, ⟨le2_sl ?_, ⟨rfl, rfl⟩, trivial⟩, by simpa only [FMin, ptL_length] using hp.2, rfl⟩
        simp only [SV.le0, ptL_length, capLe, if_true, true_and]
        exact pRows_ptL hp.1
      · cases h
    · cases h
  · intro i; show 2 ≤ _; decide
  · intro (l : List Pt) hp
    replace hp : 1 ≤ l.length ∧ l.length ≤ 1000 ∧ ∀ q ∈ l, q.l.length ≤ 100000 := hp
    obtain ⟨h1, h2, h3⟩ := hp
    repeat (any_goals (first
      | (with_reducible refine And.intro (Ask.mk ?_) ?_
         first | exact trivial | exact fun _ => trivial)
      | with_reducible refine And.intro ?_ ?_
      | with_reducible refine Br.mk (fun h => ?_) (fun h => ?_)
      | with_reducible exact True.intro
      | (with_reducible refine Late.mk ?_
         exact rfl)
      | (fail_if_success with_reducible apply stopA
         fail_if_success with_reducible apply stopE
         fail_if_success with_reducible apply stopF
         fail_if_success with_reducible apply Exists.intro
         fail_if_success with_reducible intro _
         fail_if_success with_reducible apply stopK
         fail_if_success with_reducible apply stopL
         conv => whnf)))
    all_goals (try with_reducible refine Ask.mk ?_)
    all_goals (try first | exact trivial | exact fun _ => trivial)
    all_goals (try dsimp only)
    all_goals (first | (simp at h; omega) | omega | skip)
    simp at h
    refine ⟨(1 : Nat), ⟨by omega, h1⟩, ?_, ?_⟩
    · have e : minP (l.take 1) = l.getD 0 dP := by
        match l, h1 with
        | x :: r, _ => rfl
      repeat (any_goals (first
        | (with_reducible refine And.intro (Ask.mk ?_) ?_
           first | exact trivial | exact fun _ => trivial)
        | with_reducible refine And.intro ?_ ?_
        | with_reducible refine Br.mk (fun h => ?_) (fun h => ?_)
        | with_reducible exact True.intro
        | (with_reducible refine Late.mk ?_
           exact rfl)
        | (fail_if_success with_reducible apply stopA
           fail_if_success with_reducible apply stopE
           fail_if_success with_reducible apply stopF
           fail_if_success with_reducible apply Exists.intro
           fail_if_success with_reducible intro _
           fail_if_success with_reducible apply stopK
           fail_if_success with_reducible apply stopL
           conv => whnf)))
      all_goals (try with_reducible refine Ask.mk ?_)
      all_goals (try first | exact trivial | exact fun _ => trivial)
      all_goals (try dsimp only)
      all_goals (try simp only [e])
      all_goals first | rfl | exact fun _ _ => rfl | exact fun _ _ => trivial | skip
    · rintro i ⟨i1, i2⟩
      have hml : (minP (l.take i)).l.length ≤ 100000 := h3 _ (List.mem_of_mem_take (minP_mem (l := l.take i) (by
        intro e
        simp at e
        rcases e with e | e
        · omega
        · subst e; simp at i2; omega)))
      have hz : (↑i : Int).toNat = i := Int.toNat_natCast i
      repeat (any_goals (first
        | (with_reducible refine And.intro (Ask.mk ?_) ?_
           first | exact trivial | exact fun _ => trivial)
        | with_reducible refine And.intro ?_ ?_
        | with_reducible refine Br.mk (fun h => ?_) (fun h => ?_)
        | with_reducible exact True.intro
        | (with_reducible refine Late.mk ?_
           exact rfl)
        | (fail_if_success with_reducible apply stopA
           fail_if_success with_reducible apply stopE
           fail_if_success with_reducible apply stopF
           fail_if_success with_reducible apply Exists.intro
           fail_if_success with_reducible intro _
           fail_if_success with_reducible apply stopK
           fail_if_success with_reducible apply stopL
           conv => whnf)))
      all_goals (try with_reducible refine Ask.mk ?_)
      all_goals (try first | exact trivial | exact fun _ => trivial)
      all_goals (try dsimp only)
      all_goals (try simp only [hz] at *)
      all_goals (try (simp only [inK]; omega))
      all_goals (try (simp at h; omega))
      all_goals (try (rename_i h0; simp at h0; omega))
      · simp at h
        exact ⟨⟨isCr_rowOf _, h3 _ (mem_getP h)⟩, isCr_rowOf _, hml⟩
      · rename_i h0; simp at h0
        simp only [ptEta] at h
        replace h := of_decide_eq_true h
        have e := minP_take (l := l) i1 h0
        rw [if_pos h] at e
        refine ⟨i + 1, by omega, by omega, ?_⟩
        rw [e]
        repeat (any_goals (first
          | (with_reducible refine And.intro (Ask.mk ?_) ?_
             first | exact trivial | exact fun _ => trivial)
          | with_reducible refine And.intro ?_ ?_
          | with_reducible refine Br.mk (fun h => ?_) (fun h => ?_)
          | with_reducible exact True.intro
          | (with_reducible refine Late.mk ?_
             exact rfl)
          | (fail_if_success with_reducible apply stopA
             fail_if_success with_reducible apply stopE
             fail_if_success with_reducible apply stopF
             fail_if_success with_reducible apply Exists.intro
             fail_if_success with_reducible intro _
             fail_if_success with_reducible apply stopK
             fail_if_success with_reducible apply stopL
             conv => whnf)))
        all_goals (try with_reducible refine Ask.mk ?_)
        all_goals (try first | exact trivial | exact fun _ => trivial)
        all_goals (try dsimp only)
        all_goals first | rfl | exact fun _ _ => rfl | exact fun _ _ => trivial | skip
      · rename_i h0; simp at h0
        simp only [ptEta] at h
        replace h := of_decide_eq_false h
        have e := minP_take (l := l) i1 h0
        rw [if_neg h] at e
        refine ⟨i + 1, by omega, by omega, ?_⟩
        rw [e]
        repeat (any_goals (first
          | (with_reducible refine And.intro (Ask.mk ?_) ?_
             first | exact trivial | exact fun _ => trivial)
          | with_reducible refine And.intro ?_ ?_
          | with_reducible refine Br.mk (fun h => ?_) (fun h => ?_)
          | with_reducible exact True.intro
          | (with_reducible refine Late.mk ?_
             exact rfl)
          | (fail_if_success with_reducible apply stopA
             fail_if_success with_reducible apply stopE
             fail_if_success with_reducible apply stopF
             fail_if_success with_reducible apply Exists.intro
             fail_if_success with_reducible intro _
             fail_if_success with_reducible apply stopK
             fail_if_success with_reducible apply stopL
             conv => whnf)))
        all_goals (try with_reducible refine Ask.mk ?_)
        all_goals (try first | exact trivial | exact fun _ => trivial)
        all_goals (try dsimp only)
        all_goals first | rfl | exact fun _ _ => rfl | exact fun _ _ => trivial | skip
      all_goals (simp at h; have e : l.take i = l := List.take_of_length_le (by omega))
      all_goals rw [e]
      exact fun _ _ => rfl

abbrev nLeast : FuncId := 13
def leastP (p : Pt) : Pt := if patErr p = 0 then minP (imgs p) else dP
def leastSV (p : Pt) : SV := .tup [.agg [.int .i64 (leastP p).W, .int .i64 (leastP p).H, .sl 3 (leastP p).l.length (rowOf (leastP p).l) (some (leastP p).l.length)], .int .i64 (patErr p)]
def kLeast : Kon
  | [x] => match asPat x with
    | some (a, p) => some (a ∧ ∀ c ∈ p.l, inK .u8 c.e, leastSV p)
    | none => none
  | _ => none
def FLeast : Fam := ⟨Pt, fun p => [patSV p], fun p => p.l.length ≤ 100000 ∧ ∀ c ∈ p.l, inK .u8 c.e, leastSV⟩
theorem imgs_length (p : Pt) {q : Pt} (h : q ∈ imgs p) : q.l.length = p.l.length := by
  unfold imgs imgsTo at h
  obtain ⟨t, _, rfl⟩ := List.mem_map.1 h
  exact undF_length p _
theorem imgs_pos (p : Pt) : 1 ≤ (imgs p).length := by
  unfold imgs imgsTo turnsTo
  rw [List.length_map]
  have : (0 : Nat) ∈ (List.range 8).filter fun t => t % 2 == 0 || decide (p.W = p.H) := by simp
  exact List.length_pos_of_mem this
set_option maxRecDepth 100000 in
theorem pLeast : PS nLeast kLeast := by
  refine con [(nImages, kImages), (nMin, kMin)] (by simpa using ⟨pImages, pMin⟩) FLeast (fun _ _ => none) kLeast ?_ ?_ Go.Proofs.Tryd.func13 (by kernel_rfl) (by kernel_rfl) (by kernel_rfl) ?_
  · intro args pre s h hp
    unfold kLeast at h
    split at h
    · split at h
      · rename_i x _ a p hx
        cases h
        exact ⟨p, ⟨(asPat_le hx hp.1).1, trivial⟩, ⟨(asPat_le hx hp.1).2, hp.2⟩, rfl⟩
      · cases h
    · cases h
  · intro i; show 1 ≤ _; decide
  · intro (p : Pt) hp
    replace hp : p.l.length ≤ 100000 ∧ ∀ c ∈ p.l, inK .u8 c.e := hp
    obtain ⟨hlen, hcr⟩ := hp
    repeat (any_goals (first
      | (with_reducible refine And.intro (Ask.mk ?_) ?_
         first | exact trivial | exact fun _ => trivial)
      | with_reducible refine And.intro ?_ ?_
      | with_reducible refine Br.mk (fun h => ?_) (fun h => ?_)
      | with_reducible exact True.intro
      | (with_reducible refine Late.mk ?_
         exact rfl)
      | (fail_if_success with_reducible apply stopA
         fail_if_success with_reducible apply stopE
         fail_if_success with_reducible apply stopF
         fail_if_success with_reducible apply Exists.intro
         fail_if_success with_reducible intro _
         fail_if_success with_reducible apply stopK
         fail_if_success with_reducible apply stopL
         conv => whnf)))
    all_goals (try with_reducible refine Ask.mk ?_)
    all_goals (try first | exact trivial | exact fun _ => trivial)
    all_goals (try dsimp only)
    all_goals (try simp only [ptEta, ptL_pRows] at *)
    all_goals (try simp at h)
    all_goals (have hE : imgsE p = if patErr p = 0 then imgs p else [] := rfl)
    all_goals (have hL : leastP p = if patErr p = 0 then minP (imgs p) else dP := rfl)
    · exact ⟨⟨isCr_rowOf _, hlen⟩, by rw [crL_rowOf]; exact hcr⟩
    all_goals (simp [h] at hL hE)
    all_goals (try (simp [hL, dP]; done))
    · rw [hE]
      exact ⟨isP_pRows _, imgs_pos p, Nat.le_trans (imgsTo_le p 8) (by omega), fun q hq => by rw [imgs_length p hq]; exact hlen⟩
    all_goals (try (simp [hL, hE]; done))
    exact h.symm

abbrev nSymm : FuncId := 14
def symN (p : Pt) : Int := ((imgsE p).filter fun q => sameP p q).length
def kSymm : Kon
  | [x] => match asPat x with
    | some (a, p) => some (a ∧ ∀ c ∈ p.l, inK .u8 c.e, .tup [.int .i64 (symN p), .int .i64 (patErr p)])
    | none => none
  | _ => none
def FSymm : Fam := ⟨Pt, fun p => [patSV p], fun p => p.l.length ≤ 100000 ∧ ∀ c ∈ p.l, inK .u8 c.e, fun p => .tup [.int .i64 (symN p), .int .i64 (patErr p)]⟩
def symTo (p : Pt) (i : Nat) : Nat := (((imgsE p).take i).filter fun q => sameP p q).length
theorem symTo_succ {p : Pt} {i : Nat} (h : i < (imgsE p).length) : symTo p (i + 1) = if sameP p ((imgsE p).getD i dP) = true then symTo p i + 1 else symTo p i := by
  have : (imgsE p).take (i + 1) = (imgsE p).take i ++ [(imgsE p).getD i dP] := by
    rw [List.take_add_one]
    simp [List.getD_eq_getElem?_getD, h]
  unfold symTo
  rw [this, List.filter_append]
  split
  · rename_i e
    rw [List.filter_cons, if_pos e]
    simp
  · rename_i e
    rw [List.filter_cons, if_neg e]
    simp
def ISymm (p : Pt) : Nat → Option Inv
  | 4 => some { β := Nat, ok := fun i => i ≤ (imgsE p).length, st := fun i => ⟨[⟨16, none, .int .i64 i⟩, ⟨15, none, .int .i64 (imgsE p).length⟩, ⟨14, none, .sl 3 (imgsE p).length (pRows (imgsE p)) none⟩, ⟨6, none, .int .i64 (symTo p i)⟩, ⟨5, none, .int .i64 (patErr p)⟩, ⟨3, none, .int .i64 0⟩, ⟨2, none, .int .i64 0⟩, ⟨1, none, .own 0 0⟩], [.cells 29 [.int .i64 p.W, .int .i64 p.H, .sl 3 p.l.length (rowOf p.l) none]]⟩, μ := fun i => (imgsE p).length - i }
  | _ => none
theorem imgsE_le (p : Pt) : (imgsE p).length ≤ 8 := by
  unfold imgsE
  split
  · exact imgsTo_le p 8
  · simp
theorem imgsE_len (p : Pt) {q : Pt} (h : q ∈ imgsE p) : q.l.length = p.l.length := by
  unfold imgsE at h
  split at h
  · exact imgs_length p h
  · cases h
set_option maxRecDepth 100000 in
theorem pSymm : PS nSymm kSymm := by
  refine con [(nImages, kImages), (nSame, kSame)] (by simpa using ⟨pImages, pSame⟩) FSymm (fun p => ISymm p) kSymm ?_ ?_ Go.Proofs.Tryd.func14 (by kernel_rfl) (by kernel_rfl) (by kernel_rfl) ?_
  · intro args pre s h hp
    unfold kSymm at h
    split at h
    · split at h
      · rename_i x _ a p hx
        cases h
        exact ⟨p, ⟨(asPat_le hx hp.1).1, trivial⟩, ⟨(asPat_le hx hp.1).2, hp.2⟩, rfl⟩
      · cases h
    · cases h
  · intro i; show 1 ≤ _; decide
  · intro (p : Pt) hp
    replace hp : p.l.length ≤ 100000 ∧ ∀ c ∈ p.l, inK .u8 c.e := hp
    obtain ⟨hlen, hcr⟩ := hp
    repeat (any_goals (first
      | (with_reducible refine And.intro (Ask.mk ?_) ?_
         first | exact trivial | exact fun _ => trivial)
      | with_reducible refine And.intro ?_ ?_
      | with_reducible refine Br.mk (fun h => ?_) (fun h => ?_)
      | with_reducible exact True.intro
      | (with_reducible refine Late.mk ?_
         exact rfl)
      | (fail_if_success with_reducible apply stopA
         fail_if_success with_reducible apply stopE
         fail_if_success with_reducible apply stopF
         fail_if_success with_reducible apply Exists.intro
         fail_if_success with_reducible intro _
         fail_if_success with_reducible apply stopK
         fail_if_success with_reducible apply stopL
         conv => whnf)))
    all_goals (try with_reducible refine Ask.mk ?_)
    all_goals (try first | exact trivial | exact fun _ => trivial)
    all_goals (try dsimp only)
    · exact ⟨⟨isCr_rowOf _, hlen⟩, by rw [crL_rowOf]; exact hcr⟩
    have hle := imgsE_le p
    refine ⟨(0 : Nat), by omega, ?_, ?_⟩
    · repeat (any_goals (first
        | (with_reducible refine And.intro (Ask.mk ?_) ?_
           first | exact trivial | exact fun _ => trivial)
        | with_reducible refine And.intro ?_ ?_
        | with_reducible refine Br.mk (fun h => ?_) (fun h => ?_)
        | with_reducible exact True.intro
        | (with_reducible refine Late.mk ?_
           exact rfl)
        | (fail_if_success with_reducible apply stopA
           fail_if_success with_reducible apply stopE
           fail_if_success with_reducible apply stopF
           fail_if_success with_reducible apply Exists.intro
           fail_if_success with_reducible intro _
           fail_if_success with_reducible apply stopK
           fail_if_success with_reducible apply stopL
           conv => whnf)))
      all_goals (try with_reducible refine Ask.mk ?_)
      all_goals (try first | exact trivial | exact fun _ => trivial)
      all_goals (try dsimp only)
      all_goals (try rw [ptEta])
      all_goals first | rfl | exact fun _ _ => rfl | exact fun _ _ => trivial | skip
    · intro i hi
      replace hi : i ≤ (imgsE p).length := hi
      have hz : (↑i : Int).toNat = i := Int.toNat_natCast i
      have hsy : symTo p i ≤ i := Nat.le_trans (List.length_filter_le _ _) (by rw [List.length_take]; omega)
      repeat (any_goals (first
        | (with_reducible refine And.intro (Ask.mk ?_) ?_
           first | exact trivial | exact fun _ => trivial)
        | with_reducible refine And.intro ?_ ?_
        | with_reducible refine Br.mk (fun h => ?_) (fun h => ?_)
        | with_reducible exact True.intro
        | (with_reducible refine Late.mk ?_
           exact rfl)
        | (fail_if_success with_reducible apply stopA
           fail_if_success with_reducible apply stopE
           fail_if_success with_reducible apply stopF
           fail_if_success with_reducible apply Exists.intro
           fail_if_success with_reducible intro _
           fail_if_success with_reducible apply stopK
           fail_if_success with_reducible apply stopL
           conv => whnf)))
      all_goals (try with_reducible refine Ask.mk ?_)
      all_goals (try first | exact trivial | exact fun _ => trivial)
      all_goals (try dsimp only)
      all_goals (try simp only [ptEta, hz] at *)
      all_goals (try (simp only [inK]; omega))
      all_goals (try (simp at h; omega))
      · replace h : i < (imgsE p).length := by simpa using h
        exact ⟨⟨isCr_rowOf _, hlen⟩, isCr_rowOf _, by rw [imgsE_len p (mem_getP h)]; exact hlen⟩
      · rename_i h0; replace h0 : i < (imgsE p).length := by simpa using h0
        have e := symTo_succ h0
        rw [if_pos h] at e
        refine ⟨i + 1, by omega, by omega, ?_⟩
        rw [e]
        repeat (any_goals (first
          | (with_reducible refine And.intro (Ask.mk ?_) ?_
             first | exact trivial | exact fun _ => trivial)
          | with_reducible refine And.intro ?_ ?_
          | with_reducible refine Br.mk (fun h => ?_) (fun h => ?_)
          | with_reducible exact True.intro
          | (with_reducible refine Late.mk ?_
             exact rfl)
          | (fail_if_success with_reducible apply stopA
             fail_if_success with_reducible apply stopE
             fail_if_success with_reducible apply stopF
             fail_if_success with_reducible apply Exists.intro
             fail_if_success with_reducible intro _
             fail_if_success with_reducible apply stopK
             fail_if_success with_reducible apply stopL
             conv => whnf)))
        all_goals (try with_reducible refine Ask.mk ?_)
        all_goals (try first | exact trivial | exact fun _ => trivial)
        all_goals (try dsimp only)
        all_goals first | rfl | exact fun _ _ => rfl | exact fun _ _ => trivial | skip
      · rename_i h0; replace h0 : i < (imgsE p).length := by simpa using h0
        have e := symTo_succ h0
        rw [if_neg (by rw [h]; simp)] at e
        refine ⟨i + 1, by omega, by omega, ?_⟩
        rw [e]
        repeat (any_goals (first
          | (with_reducible refine And.intro (Ask.mk ?_) ?_
             first | exact trivial | exact fun _ => trivial)
          | with_reducible refine And.intro ?_ ?_
          | with_reducible refine Br.mk (fun h => ?_) (fun h => ?_)
          | with_reducible exact True.intro
          | (with_reducible refine Late.mk ?_
             exact rfl)
          | (fail_if_success with_reducible apply stopA
             fail_if_success with_reducible apply stopE
             fail_if_success with_reducible apply stopF
             fail_if_success with_reducible apply Exists.intro
             fail_if_success with_reducible intro _
             fail_if_success with_reducible apply stopK
             fail_if_success with_reducible apply stopL
             conv => whnf)))
        all_goals (try with_reducible refine Ask.mk ?_)
        all_goals (try first | exact trivial | exact fun _ => trivial)
        all_goals (try dsimp only)
        all_goals first | rfl | exact fun _ _ => rfl | exact fun _ _ => trivial | skip
      · simp at h
        rw [symTo, List.take_of_length_le (by omega)]
        rfl

abbrev nAlike : FuncId := 17
def alikeE (p q : Pt) : Int := if patErr p = 0 then patErr q else patErr p
def alikeB (p q : Pt) : Bool := if patErr p = 0 then (if patErr q = 0 then sameP (leastP p) (leastP q) else false) else false
def kAlike : Kon
  | [x, y] => match asPat x, asPat y with
    | some (a, p), some (b, q) => some ((a ∧ ∀ c ∈ p.l, inK .u8 c.e) ∧ b ∧ ∀ c ∈ q.l, inK .u8 c.e, .tup [.bool (alikeB p q), .int .i64 (alikeE p q)])
    | _, _ => none
  | _ => none
def FAlike : Fam := ⟨Pt × Pt, fun (p, q) => [patSV p, patSV q], fun (p, q) => (p.l.length ≤ 100000 ∧ ∀ c ∈ p.l, inK .u8 c.e) ∧ q.l.length ≤ 100000 ∧ ∀ c ∈ q.l, inK .u8 c.e, fun (p, q) => .tup [.bool (alikeB p q), .int .i64 (alikeE p q)]⟩
theorem leastP_len (p : Pt) : (leastP p).l.length ≤ p.l.length := by
  unfold leastP
  split
  · have := minP_mem (l := imgs p) (fun e => by have := imgs_pos p; rw [e] at this; simp at this)
    rw [imgs_length p this]
    exact Nat.le_refl _
  · simp [dP]
set_option maxRecDepth 100000 in
theorem pAlike : PS nAlike kAlike := by
  refine con [(nLeast, kLeast), (nSame, kSame)] (by simpa using ⟨pLeast, pSame⟩) FAlike (fun _ _ => none) kAlike ?_ ?_ Go.Proofs.Tryd.func17 (by kernel_rfl) (by kernel_rfl) (by kernel_rfl) ?_
  · intro args pre s h hp
    unfold kAlike at h
    split at h
    · split at h
      · rename_i x y _ _ a p b q hx hy
        cases h
        exact ⟨(p, q), ⟨(asPat_le hx hp.1.1).1, (asPat_le hy hp.2.1).1, trivial⟩, ⟨⟨(asPat_le hx hp.1.1).2, hp.1.2⟩, (asPat_le hy hp.2.1).2, hp.2.2⟩, rfl⟩
      · cases h
    · cases h
  · intro i; show 2 ≤ _; decide
  · rintro ⟨p, q⟩ hp
    replace hp : (p.l.length ≤ 100000 ∧ ∀ c ∈ p.l, inK .u8 c.e) ∧ q.l.length ≤ 100000 ∧ ∀ c ∈ q.l, inK .u8 c.e := hp
    obtain ⟨⟨hp1, hp2⟩, hq1, hq2⟩ := hp
    repeat (any_goals (first
      | (with_reducible refine And.intro (Ask.mk ?_) ?_
         first | exact trivial | exact fun _ => trivial)
      | with_reducible refine And.intro ?_ ?_
      | with_reducible refine Br.mk (fun h => ?_) (fun h => ?_)
      | with_reducible exact True.intro
      | (with_reducible refine Late.mk ?_
         exact rfl)
      | (fail_if_success with_reducible apply stopA
         fail_if_success with_reducible apply stopE
         fail_if_success with_reducible apply stopF
         fail_if_success with_reducible apply Exists.intro
         fail_if_success with_reducible intro _
         fail_if_success with_reducible apply stopK
         fail_if_success with_reducible apply stopL
         conv => whnf)))
    all_goals (try with_reducible refine Ask.mk ?_)
    all_goals (try first | exact trivial | exact fun _ => trivial)
    all_goals (try dsimp only)
    all_goals (try simp only [ptEta] at *)
    all_goals (try simp at h)
    · exact ⟨⟨isCr_rowOf _, hp1⟩, by rw [crL_rowOf]; exact hp2⟩
    · simp [alikeB, h]
    · simp [alikeE, h]
    · exact ⟨⟨isCr_rowOf _, hq1⟩, by rw [crL_rowOf]; exact hq2⟩
    · exact fun _ => ⟨⟨isCr_rowOf _, Nat.le_trans (leastP_len p) hp1⟩, isCr_rowOf _, Nat.le_trans (leastP_len q) hq1⟩
    · rw [alikeB, if_pos h]
      by_cases hq : patErr q = 0 <;> simp [hq]
    · rw [alikeE, if_pos h]

end Go.Proofs.YthfkpmobmnfgcaaDoor.V

/-
  Contracts: the examples of the chapter. Conditions: none.
-/
namespace Go.Proofs.YthfkpmobmnfgcaaDoor.V
open Go

def exP (e k : Int) : Pt := ⟨1, 1, [⟨0, e, k⟩, ⟨if e = 1 then 2 else 1, e, k⟩]⟩
abbrev nExample : FuncId := 27
def kExample : Kon
  | [.int .u8 e, .int .u8 k] => some (True, .agg [.int .i64 1, .int .i64 1, .sl 3 2 (rowOf (exP e k).l) (some 2)])
  | _ => none
def FExample : Fam := ⟨Int × Int, fun (e, k) => [.int .u8 e, .int .u8 k], fun (e, k) => True, fun (e, k) => .agg [.int .i64 1, .int .i64 1, .sl 3 2 (rowOf (exP e k).l) (some 2)]⟩
set_option maxHeartbeats 4000000 in
set_option maxRecDepth 100000 in
theorem pExample : PS nExample kExample := by
  refine con [] (by simp) FExample (fun _ _ => none) kExample ?_ ?_ Go.Proofs.Tryd.func27 (by kernel_rfl) (by kernel_rfl) (by kernel_rfl) ?_
  · intro args pre s h hp
    unfold kExample at h
    split at h
    · rename_i e k; cases h; exact ⟨(e, k), by simp [FExample, le2L, SV.le2, SV.le1, le0L, SV.le0], hp, rfl⟩
    · cases h
  · intro i; show 2 ≤ _; decide
  · rintro ⟨e, k⟩ hp
    replace hp : True := hp
    repeat (any_goals (first
      | (with_reducible refine And.intro (Ask.mk ?_) ?_
         first | exact trivial | exact fun _ => trivial)
      | with_reducible refine And.intro ?_ ?_
      | with_reducible refine Br.mk (fun h => ?_) (fun h => ?_)
      | with_reducible exact True.intro
      | (with_reducible refine Late.mk ?_
         exact rfl)
      | (fail_if_success with_reducible apply stopA
         fail_if_success with_reducible apply stopE
         fail_if_success with_reducible apply stopF
         fail_if_success with_reducible apply Exists.intro
         fail_if_success with_reducible intro _
         fail_if_success with_reducible apply stopK
         fail_if_success with_reducible apply stopL
         conv => whnf)))
    all_goals (try with_reducible refine Ask.mk ?_)
    all_goals (try first | exact trivial | exact fun _ => trivial)
    all_goals (try dsimp only)
    all_goals (intro i hi; match i, hi with
      | 0, _ => rfl
      | 1, _ => simp at h; simp [h, rowOf, exP, crSV])

def livesP : Bool := decide (imgs (exP 2 2) = [exP 2 2, exP 1 2, exP 2 2, exP 1 2, exP 1 1, exP 2 1, exP 1 1, exP 2 1])
theorem lives_facts : (patErr (exP 2 2) = 0 ∧ imgs (exP 2 2) = [exP 2 2, exP 1 2, exP 2 2, exP 1 2, exP 1 1, exP 2 1, exP 1 1, exP 2 1] ∧ symN (exP 2 2) = 2 ∧ leastP (exP 2 2) = exP 1 1) ∧
    (patErr ⟨2, 1, [⟨1, 0, 2⟩]⟩ = 0 ∧ symN ⟨2, 1, [⟨1, 0, 2⟩]⟩ = 2 ∧ leastP ⟨2, 1, [⟨1, 0, 2⟩]⟩ = ⟨2, 1, [⟨1, 0, 1⟩]⟩) ∧ patErr ⟨2, 1, []⟩ = 0 ∧ symN ⟨2, 1, []⟩ = 4 := by decide +kernel

end Go.Proofs.YthfkpmobmnfgcaaDoor.V

/-
  The examples of the chapter hold. Conditions: none.
-/
namespace Go.Proofs.YthfkpmobmnfgcaaDoor.V
open Go

abbrev nLives : FuncId := 12
def kLives : Kon
  | [] => some (True, .bool true)
  | _ => none
def FLives : Fam := ⟨Unit, fun _ => [], fun _ => True, fun _ => .bool true⟩
def exL : List Pt := [exP 2 2, exP 1 2, exP 2 2, exP 1 2, exP 1 1, exP 2 1, exP 1 1, exP 2 1]
theorem ptOK (p : Pt) (h : (p.l.all fun c => decide (0 ≤ c.e) && decide (c.e ≤ 255)) = true) : isCr p.l.length (rowOf p.l) ∧ ∀ c ∈ crL p.l.length (rowOf p.l), inK .u8 c.e := by
  refine ⟨isCr_rowOf _, fun c hc => ?_⟩
  rw [crL_rowOf] at hc
  have := List.all_eq_true.1 h c hc
  simp only [Bool.and_eq_true, decide_eq_true_eq] at this
  simp only [inK]; omega
def ILives : Nat → Option Inv
  | 7 => some { β := Nat, ok := fun i => i ≤ 8, st := fun i => ⟨[⟨5, none, .int .i64 i⟩, ⟨4, none, .osl 1⟩, ⟨3, none, .int .i64 0⟩, ⟨2, none, .sl 3 8 (pRows exL) none⟩, ⟨1, none, .own 0 0⟩, ⟨0, none, .bool false⟩], [.cells 29 (pRow (exP 2 2)), .row 29 3 8 (pRows exL) none]⟩, μ := fun i => 8 - i }
  | _ => none
theorem exE (e k : Int) : ({ W := 1, H := 1, l := crL 2 (rowOf (exP e k).l) } : Pt) = exP e k := ptEta (exP e k)
theorem imgsE_ex : imgsE (exP 2 2) = exL := by rw [imgsE, if_pos lives_facts.1.1]; exact lives_facts.1.2.1
theorem sameP_self (p : Pt) : sameP p p = true := by rw [sameP_iff]; simp
theorem exL_len : ∀ i, (exL.getD i dP).l.length ≤ 100000 := by
  intro i
  by_cases h : i < exL.length
  · have : ∀ q ∈ exL, q.l.length ≤ 100000 := by decide
    exact this _ (mem_getP h)
  · rw [List.getD_eq_getElem?_getD, List.getElem?_eq_none (by omega)]; simp [dP]
set_option maxHeartbeats 4000000 in
set_option maxRecDepth 100000 in
theorem pLives : PS nLives kLives := by
  refine conX [(nExample, kExample), (nImages, kImages), (nSame, kSame), (nSymm, kSymm), (nLeast, kLeast)] (by simpa using ⟨pExample, pImages, pSame, pSymm, pLeast⟩) [] (by simp) (fun d => d == 73) FLives (fun _ => ILives) kLives ?_ ?_ Go.Proofs.Tryd.func12 (by kernel_rfl) (by kernel_rfl) (by kernel_rfl) ?_
  · intro args pre s h hp
    unfold kLives at h
    split at h
    · cases h
      exact ⟨(), trivial, trivial, rfl⟩
    · cases h
  · intro i; show 0 ≤ _; decide
  · intro _ _
    repeat (any_goals (first
      | (with_reducible refine And.intro (Ask.mk ?_) ?_
         first | exact trivial | exact fun _ => trivial)
      | with_reducible refine And.intro ?_ ?_
      | with_reducible refine Br.mk (fun h => ?_) (fun h => ?_)
      | with_reducible exact True.intro
      | (with_reducible refine Late.mk ?_
         exact rfl)
      | (fail_if_success with_reducible apply stopA
         fail_if_success with_reducible apply stopE
         fail_if_success with_reducible apply stopF
         fail_if_success with_reducible apply Exists.intro
         fail_if_success with_reducible intro _
         fail_if_success with_reducible apply stopK
         fail_if_success with_reducible apply stopL
         conv => whnf)))
    all_goals (try with_reducible refine Ask.mk ?_)
    all_goals (try first | exact trivial | exact fun _ => trivial)
    all_goals (try dsimp only)
    · exact ⟨⟨isCr_rowOf (exP 2 2).l, by omega⟩, (ptOK _ (by decide)).2⟩
    · simp only [exE, imgsE_ex] at h
      exact absurd h (by decide)
    · refine ⟨(0 : Nat), by omega, ?_, ?_⟩
      · repeat (any_goals (first
          | (with_reducible refine And.intro (Ask.mk ?_) ?_
             first | exact trivial | exact fun _ => trivial)
          | with_reducible refine And.intro ?_ ?_
          | with_reducible refine Br.mk (fun h => ?_) (fun h => ?_)
          | with_reducible exact True.intro
          | (with_reducible refine Late.mk ?_
             exact rfl)
          | (fail_if_success with_reducible apply stopA
             fail_if_success with_reducible apply stopE
             fail_if_success with_reducible apply stopF
             fail_if_success with_reducible apply Exists.intro
             fail_if_success with_reducible intro _
             fail_if_success with_reducible apply stopK
             fail_if_success with_reducible apply stopL
             conv => whnf)))
        all_goals (try with_reducible refine Ask.mk ?_)
        all_goals (try first | exact trivial | exact fun _ => trivial)
        all_goals (try dsimp only)
        all_goals first | rfl | exact fun _ _ => rfl | exact fun _ _ => trivial | skip
        intro i hi
        match i, hi with
        | 0, _ => rfl
        | 1, _ => rfl
        | 2, _ => rfl
        | 3, _ => rfl
        | 4, _ => rfl
        | 5, _ => rfl
        | 6, _ => rfl
        | 7, _ => rfl
      · intro i hi
        replace hi : i ≤ 8 := hi
        have hz : (↑i : Int).toNat = i := Int.toNat_natCast i
        repeat (any_goals (first
          | (with_reducible refine And.intro (Ask.mk ?_) ?_
             first | exact trivial | exact fun _ => trivial)
          | with_reducible refine And.intro ?_ ?_
          | with_reducible refine Br.mk (fun h => ?_) (fun h => ?_)
          | with_reducible exact True.intro
          | (with_reducible refine Late.mk ?_
             exact rfl)
          | (fail_if_success with_reducible apply stopA
             fail_if_success with_reducible apply stopE
             fail_if_success with_reducible apply stopF
             fail_if_success with_reducible apply Exists.intro
             fail_if_success with_reducible intro _
             fail_if_success with_reducible apply stopK
             fail_if_success with_reducible apply stopL
             conv => whnf)))
        all_goals (try with_reducible refine Ask.mk ?_)
        all_goals (try first | exact trivial | exact fun _ => trivial)
        all_goals (try dsimp only)
        all_goals (try simp only [hz, ptEta] at *)
        all_goals (try (simp only [inK]; omega))
        all_goals (try (simp at h; omega))
        · show i < 8
          simp at h; omega
        · exact ⟨⟨isCr_rowOf _, exL_len i⟩, isCr_rowOf _, exL_len i⟩
        · rw [sameP_self] at h
          exact absurd h (by decide)
        · refine ⟨i + 1, by simp at *; omega, by simp at *; omega, ?_⟩
          repeat (any_goals (first
            | (with_reducible refine And.intro (Ask.mk ?_) ?_
               first | exact trivial | exact fun _ => trivial)
            | with_reducible refine And.intro ?_ ?_
            | with_reducible refine Br.mk (fun h => ?_) (fun h => ?_)
            | with_reducible exact True.intro
            | (with_reducible refine Late.mk ?_
               exact rfl)
            | (fail_if_success with_reducible apply stopA
               fail_if_success with_reducible apply stopE
               fail_if_success with_reducible apply stopF
               fail_if_success with_reducible apply Exists.intro
               fail_if_success with_reducible intro _
               fail_if_success with_reducible apply stopK
               fail_if_success with_reducible apply stopL
               conv => whnf)))
          all_goals (try with_reducible refine Ask.mk ?_)
          all_goals (try first | exact trivial | exact fun _ => trivial)
          all_goals (try dsimp only)
          all_goals first | rfl | exact fun _ _ => rfl | exact fun _ _ => trivial | skip
        · exact ⟨⟨isCr_rowOf _, by decide⟩, (ptOK _ (by decide)).2⟩
        · exact ⟨⟨isCr_rowOf _, by decide⟩, (ptOK _ (by decide)).2⟩
        · exact ⟨⟨fun i hi => by obtain rfl : i = 0 := by omega
                                 rfl, by decide⟩, (ptOK ⟨2, 1, [⟨1, 0, 2⟩]⟩ (by decide)).2⟩
        · exact ⟨⟨fun i hi => by obtain rfl : i = 0 := by omega
                                 rfl, by decide⟩, (ptOK ⟨2, 1, [⟨1, 0, 2⟩]⟩ (by decide)).2⟩
        · exact ⟨⟨fun i hi => absurd hi (by omega), by decide⟩, fun c hc => by cases hc⟩
        · intro _
          rw [lives_facts.1.2.2.2]
          exact ⟨⟨isCr_rowOf _, by decide⟩, isCr_rowOf (exP 1 1).l, by decide⟩
        all_goals clear h
        · decide +kernel
        · decide +kernel

end Go.Proofs.YthfkpmobmnfgcaaDoor.V

/-
  Contract: the document's own order of patterns. Conditions: none.
-/
namespace Go.Proofs.YthfkpmobmnfgcaaDoor.V
open Go

def kinOK (p : Pt) : Prop := ∀ c ∈ p.l, inK .u8 c.e ∧ inK .u8 c.k
theorem memD {l : List Cr} {i : Nat} (hi : i < l.length) : l.getD i d0 ∈ l := by
  simp [List.getD_eq_getElem?_getD, hi]
def rowI (l : List Int) (i : Nat) : List SV := [.int .i64 (l.getD i 0)]
def crInts (c : Cr) : List Int := [c.c, c.e, c.k]
def intsTo (p : Pt) (i : Nat) : List Int := p.W :: p.H :: (p.l.take i).flatMap crInts
def ptInts (p : Pt) : List Int := p.W :: p.H :: p.l.flatMap crInts
def lexI : List Int → List Int → Int
  | [], [] => 0
  | [], _ :: _ => -1
  | _ :: _, [] => 1
  | x :: l, y :: m => if x < y then -1 else if x > y then 1 else lexI l m
theorem intsTo_length (p : Pt) {i : Nat} (hi : i ≤ p.l.length) : (intsTo p i).length = 2 + 3 * i := by
  have : ∀ l : List Cr, (l.flatMap crInts).length = 3 * l.length := by
    intro l
    induction l with
    | nil => rfl
    | cons x l ih => simp [List.flatMap_cons, crInts, ih]; omega
  simp only [intsTo, List.length_cons, this, List.length_take]
  omega
theorem intsTo_succ {p : Pt} {i : Nat} (hi : i < p.l.length) : intsTo p (i + 1) = intsTo p i ++ crInts (p.l.getD i d0) := by
  have : p.l.take (i + 1) = p.l.take i ++ [p.l.getD i d0] := by
    rw [List.take_add_one]
    simp [List.getD_eq_getElem?_getD, hi]
  simp [intsTo, this, List.flatMap_append]
theorem intsTo_all (p : Pt) : intsTo p p.l.length = ptInts p := by simp [intsTo, ptInts]
theorem rowI_app {l m : List Int} {f : Nat → List SV} (hf : ∀ j, j < m.length → f j = rowI m j) : ∀ i, i < l.length + m.length → (if i < l.length then rowI l i else f (i - l.length)) = rowI (l ++ m) i := by
  intro i hi
  split
  · rename_i h
    simp [rowI, List.getD_eq_getElem?_getD, List.getElem?_append_left h]
  · rename_i h
    rw [hf _ (by omega)]
    simp [rowI, List.getD_eq_getElem?_getD, List.getElem?_append_right (by omega : l.length ≤ i)]
theorem lexI_drop {l m : List Int} {i : Nat} (h : i < l.length) (h' : i < m.length) : lexI (l.drop i) (m.drop i) = if l.getD i 0 < m.getD i 0 then -1 else if l.getD i 0 > m.getD i 0 then 1 else lexI (l.drop (i + 1)) (m.drop (i + 1)) := by
  rw [List.drop_eq_getElem_cons h, List.drop_eq_getElem_cons h']
  simp [lexI, List.getD_eq_getElem?_getD, h, h']

abbrev nLawOrder : FuncId := 15
def kLawOrder : Kon
  | [x, y] => match asPat x, asPat y with
    | some (a, p), some (b, q) => some ((a ∧ kinOK p) ∧ b ∧ kinOK q, .int .i64 (lexI (ptInts p) (ptInts q)))
    | _, _ => none
  | _ => none
def FLawOrder : Fam := ⟨Pt × Pt, fun (p, q) => [patSV p, patSV q], fun (p, q) => (p.l.length ≤ 100000 ∧ kinOK p) ∧ q.l.length ≤ 100000 ∧ kinOK q, fun (p, q) => .int .i64 (lexI (ptInts p) (ptInts q))⟩
def ILawOrder (p q : Pt) : Nat → Option Inv
  | 3 => some { β := Nat, ok := fun i => i ≤ p.l.length, st := fun i => ⟨[⟨7, none, .int .i64 i⟩, ⟨6, none, .osl 3⟩, ⟨5, none, .osl 2⟩, ⟨4, none, .int .i64 0⟩, ⟨3, none, .own 1 0⟩, ⟨2, none, .own 0 0⟩], [.cells 29 [.int .i64 p.W, .int .i64 p.H, .sl 3 p.l.length (rowOf p.l) none], .cells 29 [.int .i64 q.W, .int .i64 q.H, .sl 3 q.l.length (rowOf q.l) none], .row 3 1 (2 + 3 * i) (rowI (intsTo p i)) none, .row 3 1 2 (rowI (intsTo q 0)) none]⟩, μ := fun i => p.l.length - i }
  | 7 => some { β := Nat, ok := fun i => i ≤ q.l.length, st := fun i => ⟨[⟨8, none, .int .i64 i⟩, ⟨6, none, .osl 3⟩, ⟨5, none, .osl 2⟩, ⟨4, none, .int .i64 0⟩, ⟨3, none, .own 1 0⟩], [.cells 29 [.int .i64 p.W, .int .i64 p.H, .sl 3 p.l.length (rowOf p.l) none], .cells 29 [.int .i64 q.W, .int .i64 q.H, .sl 3 q.l.length (rowOf q.l) none], .row 3 1 (2 + 3 * p.l.length) (rowI (ptInts p)) none, .row 3 1 (2 + 3 * i) (rowI (intsTo q i)) none]⟩, μ := fun i => q.l.length - i }
  | 11 => some { β := Nat, ok := fun i => i ≤ 2 + 3 * p.l.length ∧ i ≤ 2 + 3 * q.l.length ∧ lexI (ptInts p) (ptInts q) = lexI ((ptInts p).drop i) ((ptInts q).drop i), st := fun i => ⟨[⟨9, none, .int .i64 i⟩, ⟨6, none, .osl 3⟩, ⟨5, none, .osl 2⟩, ⟨4, none, .int .i64 0⟩], [.cells 29 [.int .i64 p.W, .int .i64 p.H, .sl 3 p.l.length (rowOf p.l) none], .cells 29 [.int .i64 q.W, .int .i64 q.H, .sl 3 q.l.length (rowOf q.l) none], .row 3 1 (2 + 3 * p.l.length) (rowI (ptInts p)) none, .row 3 1 (2 + 3 * q.l.length) (rowI (ptInts q)) none]⟩, μ := fun i => 2 + 3 * p.l.length - i }
  | _ => none
set_option maxRecDepth 100000 in
theorem pLawOrder : PS nLawOrder kLawOrder := by
  refine con [] (by simp) FLawOrder (fun (p, q) => ILawOrder p q) kLawOrder ?_ ?_ Go.Proofs.Tryd.func15 (by kernel_rfl) (by kernel_rfl) (by kernel_rfl) ?_
  · intro args pre s h hp
    unfold kLawOrder at h
    split at h
    · split at h
      · rename_i a p b q hx hy
        cases h
        exact ⟨(p, q), ⟨(asPat_le hx hp.1.1).1, (asPat_le hy hp.2.1).1, trivial⟩, ⟨⟨(asPat_le hx hp.1.1).2, hp.1.2⟩, (asPat_le hy hp.2.1).2, hp.2.2⟩, rfl⟩
      · cases h
    · cases h
  · intro i; show 2 ≤ _; decide
  · rintro ⟨p, q⟩ hp
    replace hp : (p.l.length ≤ 100000 ∧ kinOK p) ∧ q.l.length ≤ 100000 ∧ kinOK q := hp
    obtain ⟨⟨hp1, hp2⟩, hq1, hq2⟩ := hp
    repeat (any_goals (first
      | (with_reducible refine And.intro (Ask.mk ?_) ?_
         first | exact trivial | exact fun _ => trivial)
      | with_reducible refine And.intro ?_ ?_
      | with_reducible refine Br.mk (fun h => ?_) (fun h => ?_)
      | with_reducible exact True.intro
      | (with_reducible refine Late.mk ?_
         exact rfl)
      | (fail_if_success with_reducible apply stopA
         fail_if_success with_reducible apply stopE
         fail_if_success with_reducible apply stopF
         fail_if_success with_reducible apply Exists.intro
         fail_if_success with_reducible intro _
         fail_if_success with_reducible apply stopK
         fail_if_success with_reducible apply stopL
         conv => whnf)))
    all_goals (try with_reducible refine Ask.mk ?_)
    all_goals (try first | exact trivial | exact fun _ => trivial)
    all_goals (try dsimp only)
    refine ⟨(0 : Nat), by omega, ?_, ?_⟩
    · repeat (any_goals (first
        | (with_reducible refine And.intro (Ask.mk ?_) ?_
           first | exact trivial | exact fun _ => trivial)
        | with_reducible refine And.intro ?_ ?_
        | with_reducible refine Br.mk (fun h => ?_) (fun h => ?_)
        | with_reducible exact True.intro
        | (with_reducible refine Late.mk ?_
           exact rfl)
        | (fail_if_success with_reducible apply stopA
           fail_if_success with_reducible apply stopE
           fail_if_success with_reducible apply stopF
           fail_if_success with_reducible apply Exists.intro
           fail_if_success with_reducible intro _
           fail_if_success with_reducible apply stopK
           fail_if_success with_reducible apply stopL
           conv => whnf)))
      all_goals (try with_reducible refine Ask.mk ?_)
      all_goals (try first | exact trivial | exact fun _ => trivial)
      all_goals (try dsimp only)
      all_goals first | rfl | exact fun _ _ => rfl | exact fun _ _ => trivial | skip
      · intro j hj
        match j, hj with
        | 0, _ => rfl
        | 1, _ => rfl
      · intro j hj
        match j, hj with
        | 0, _ => rfl
        | 1, _ => rfl
    intro i hi
    replace hi : i ≤ p.l.length := hi
    have hz : (↑i : Int).toNat = i := Int.toNat_natCast i
    have hl := intsTo_length p hi
    repeat (any_goals (first
      | (with_reducible refine And.intro (Ask.mk ?_) ?_
         first | exact trivial | exact fun _ => trivial)
      | with_reducible refine And.intro ?_ ?_
      | with_reducible refine Br.mk (fun h => ?_) (fun h => ?_)
      | with_reducible exact True.intro
      | (with_reducible refine Late.mk ?_
         exact rfl)
      | (fail_if_success with_reducible apply stopA
         fail_if_success with_reducible apply stopE
         fail_if_success with_reducible apply stopF
         fail_if_success with_reducible apply Exists.intro
         fail_if_success with_reducible intro _
         fail_if_success with_reducible apply stopK
         fail_if_success with_reducible apply stopL
         conv => whnf)))
    all_goals (try with_reducible refine Ask.mk ?_)
    all_goals (try first | exact trivial | exact fun _ => trivial)
    all_goals (try dsimp only)
    all_goals (try simp only [hz] at *)
    all_goals (try (simp only [inK]; omega))
    all_goals (try (simp at h; omega))
    · simp at h
      have := (hp2 _ (memD h)).1
      simp only [inK] at this ⊢; omega
    · simp at h
      have := (hp2 _ (memD h)).2
      simp only [inK] at this ⊢; omega
    · show 2 + 3 * i + 3 ≤ 9223372036854775807 ∧ (2 + 3 * i + 3) * 8 ≤ 140737488355328
      simp at h; omega
    · simp at h
      refine ⟨i + 1, by omega, by omega, ?_⟩
      repeat (any_goals (first
        | (with_reducible refine And.intro (Ask.mk ?_) ?_
           first | exact trivial | exact fun _ => trivial)
        | with_reducible refine And.intro ?_ ?_
        | with_reducible refine Br.mk (fun h => ?_) (fun h => ?_)
        | with_reducible exact True.intro
        | (with_reducible refine Late.mk ?_
           exact rfl)
        | (fail_if_success with_reducible apply stopA
           fail_if_success with_reducible apply stopE
           fail_if_success with_reducible apply stopF
           fail_if_success with_reducible apply Exists.intro
           fail_if_success with_reducible intro _
           fail_if_success with_reducible apply stopK
           fail_if_success with_reducible apply stopL
           conv => whnf)))
      all_goals (try with_reducible refine Ask.mk ?_)
      all_goals (try first | exact trivial | exact fun _ => trivial)
      all_goals (try dsimp only)
      all_goals first | rfl | exact fun _ _ => rfl | exact fun _ _ => trivial | skip
      intro j hj
      have e := rowI_app (l := intsTo p i) (m := crInts (p.l.getD i d0)) (f := fun k => (List.map (fun x => x.snd) [(2, [SV.int IntKind.i64 (p.l.getD i d0).k]), (1, [SV.int IntKind.i64 (p.l.getD i d0).e]), (0, [SV.int IntKind.i64 (p.l.getD i d0).c])].reverse).getD k []) (fun j hj => by
        match j, hj with
        | 0, _ => rfl
        | 1, _ => rfl
        | 2, _ => rfl) j (by rw [hl]; exact hj)
      rw [hl, ← intsTo_succ h] at e
      exact e
    have ei : i = p.l.length := by simp at h; omega
    subst ei
    clear hl hi hz h
    refine ⟨(0 : Nat), by omega, ?_, ?_⟩
    · rw [← intsTo_all p]
      repeat (any_goals (first
        | (with_reducible refine And.intro (Ask.mk ?_) ?_
           first | exact trivial | exact fun _ => trivial)
        | with_reducible refine And.intro ?_ ?_
        | with_reducible refine Br.mk (fun h => ?_) (fun h => ?_)
        | with_reducible exact True.intro
        | (with_reducible refine Late.mk ?_
           exact rfl)
        | (fail_if_success with_reducible apply stopA
           fail_if_success with_reducible apply stopE
           fail_if_success with_reducible apply stopF
           fail_if_success with_reducible apply Exists.intro
           fail_if_success with_reducible intro _
           fail_if_success with_reducible apply stopK
           fail_if_success with_reducible apply stopL
           conv => whnf)))
      all_goals (try with_reducible refine Ask.mk ?_)
      all_goals (try first | exact trivial | exact fun _ => trivial)
      all_goals (try dsimp only)
      all_goals first | rfl | exact fun _ _ => rfl | exact fun _ _ => trivial | skip
    intro i hi
    replace hi : i ≤ q.l.length := hi
    have hz : (↑i : Int).toNat = i := Int.toNat_natCast i
    have hl := intsTo_length q hi
    repeat (any_goals (first
      | (with_reducible refine And.intro (Ask.mk ?_) ?_
         first | exact trivial | exact fun _ => trivial)
      | with_reducible refine And.intro ?_ ?_
      | with_reducible refine Br.mk (fun h => ?_) (fun h => ?_)
      | with_reducible exact True.intro
      | (with_reducible refine Late.mk ?_
         exact rfl)
      | (fail_if_success with_reducible apply stopA
         fail_if_success with_reducible apply stopE
         fail_if_success with_reducible apply stopF
         fail_if_success with_reducible apply Exists.intro
         fail_if_success with_reducible intro _
         fail_if_success with_reducible apply stopK
         fail_if_success with_reducible apply stopL
         conv => whnf)))
    all_goals (try with_reducible refine Ask.mk ?_)
    all_goals (try first | exact trivial | exact fun _ => trivial)
    all_goals (try dsimp only)
    all_goals (try simp only [hz] at *)
    all_goals (try (simp only [inK]; omega))
    all_goals (try (simp at h; omega))
    · simp at h
      have := (hq2 _ (memD h)).1
      simp only [inK] at this ⊢; omega
    · simp at h
      have := (hq2 _ (memD h)).2
      simp only [inK] at this ⊢; omega
    · show 2 + 3 * i + 3 ≤ 9223372036854775807 ∧ (2 + 3 * i + 3) * 8 ≤ 140737488355328
      simp at h; omega
    · simp at h
      refine ⟨i + 1, by omega, by omega, ?_⟩
      repeat (any_goals (first
        | (with_reducible refine And.intro (Ask.mk ?_) ?_
           first | exact trivial | exact fun _ => trivial)
        | with_reducible refine And.intro ?_ ?_
        | with_reducible refine Br.mk (fun h => ?_) (fun h => ?_)
        | with_reducible exact True.intro
        | (with_reducible refine Late.mk ?_
           exact rfl)
        | (fail_if_success with_reducible apply stopA
           fail_if_success with_reducible apply stopE
           fail_if_success with_reducible apply stopF
           fail_if_success with_reducible apply Exists.intro
           fail_if_success with_reducible intro _
           fail_if_success with_reducible apply stopK
           fail_if_success with_reducible apply stopL
           conv => whnf)))
      all_goals (try with_reducible refine Ask.mk ?_)
      all_goals (try first | exact trivial | exact fun _ => trivial)
      all_goals (try dsimp only)
      all_goals first | rfl | exact fun _ _ => rfl | exact fun _ _ => trivial | skip
      intro j hj
      have e := rowI_app (l := intsTo q i) (m := crInts (q.l.getD i d0)) (f := fun k => (List.map (fun x => x.snd) [(2, [SV.int IntKind.i64 (q.l.getD i d0).k]), (1, [SV.int IntKind.i64 (q.l.getD i d0).e]), (0, [SV.int IntKind.i64 (q.l.getD i d0).c])].reverse).getD k []) (fun j hj => by
        match j, hj with
        | 0, _ => rfl
        | 1, _ => rfl
        | 2, _ => rfl) j (by rw [hl]; exact hj)
      rw [hl, ← intsTo_succ h] at e
      exact e
    have ei : i = q.l.length := by simp at h; omega
    subst ei
    clear hl hi hz h
    have hlp : (ptInts p).length = 2 + 3 * p.l.length := by rw [← intsTo_all]; exact intsTo_length p (Nat.le_refl _)
    have hlq : (ptInts q).length = 2 + 3 * q.l.length := by rw [← intsTo_all]; exact intsTo_length q (Nat.le_refl _)
    refine ⟨(0 : Nat), ⟨by omega, by omega, by simp⟩, ?_, ?_⟩
    · rw [← intsTo_all q]
      repeat (any_goals (first
        | (with_reducible refine And.intro (Ask.mk ?_) ?_
           first | exact trivial | exact fun _ => trivial)
        | with_reducible refine And.intro ?_ ?_
        | with_reducible refine Br.mk (fun h => ?_) (fun h => ?_)
        | with_reducible exact True.intro
        | (with_reducible refine Late.mk ?_
           exact rfl)
        | (fail_if_success with_reducible apply stopA
           fail_if_success with_reducible apply stopE
           fail_if_success with_reducible apply stopF
           fail_if_success with_reducible apply Exists.intro
           fail_if_success with_reducible intro _
           fail_if_success with_reducible apply stopK
           fail_if_success with_reducible apply stopL
           conv => whnf)))
      all_goals (try with_reducible refine Ask.mk ?_)
      all_goals (try first | exact trivial | exact fun _ => trivial)
      all_goals (try dsimp only)
      all_goals first | rfl | exact fun _ _ => rfl | exact fun _ _ => trivial | skip
    rintro i ⟨i1, i2, i3⟩
    have hz : (↑i : Int).toNat = i := Int.toNat_natCast i
    repeat (any_goals (first
      | (with_reducible refine And.intro (Ask.mk ?_) ?_
         first | exact trivial | exact fun _ => trivial)
      | with_reducible refine And.intro ?_ ?_
      | with_reducible refine Br.mk (fun h => ?_) (fun h => ?_)
      | with_reducible exact True.intro
      | (with_reducible refine Late.mk ?_
         exact rfl)
      | (fail_if_success with_reducible apply stopA
         fail_if_success with_reducible apply stopE
         fail_if_success with_reducible apply stopF
         fail_if_success with_reducible apply Exists.intro
         fail_if_success with_reducible intro _
         fail_if_success with_reducible apply stopK
         fail_if_success with_reducible apply stopL
         conv => whnf)))
    all_goals (try with_reducible refine Ask.mk ?_)
    all_goals (try first | exact trivial | exact fun _ => trivial)
    all_goals (try dsimp only)
    all_goals (try simp only [hz] at *)
    all_goals (try simp only [Bool.and_eq_true, decide_eq_true_eq, Bool.and_eq_false_iff, decide_eq_false_iff_not] at *)
    all_goals (first
      | omega
      | (show i < 2 + 3 * p.l.length; omega)
      | (show i < 2 + 3 * q.l.length; omega)
      | (simp only [inK]; omega)
      | skip)
    · rename_i h0
      rw [i3, lexI_drop (by omega) (by omega), if_pos h]
    · rename_i h1 h0
      rw [i3, lexI_drop (by omega) (by omega), if_neg h0, if_pos h]
    · rename_i h1 h0
      refine ⟨i + 1, ⟨by omega, by omega, ?_⟩, by omega, ?_⟩
      · rw [i3, lexI_drop (by omega) (by omega), if_neg h0, if_neg h]
      · repeat (any_goals (first
          | (with_reducible refine And.intro (Ask.mk ?_) ?_
             first | exact trivial | exact fun _ => trivial)
          | with_reducible refine And.intro ?_ ?_
          | with_reducible refine Br.mk (fun h => ?_) (fun h => ?_)
          | with_reducible exact True.intro
          | (with_reducible refine Late.mk ?_
             exact rfl)
          | (fail_if_success with_reducible apply stopA
             fail_if_success with_reducible apply stopE
             fail_if_success with_reducible apply stopF
             fail_if_success with_reducible apply Exists.intro
             fail_if_success with_reducible intro _
             fail_if_success with_reducible apply stopK
             fail_if_success with_reducible apply stopL
             conv => whnf)))
        all_goals (try with_reducible refine Ask.mk ?_)
        all_goals (try first | exact trivial | exact fun _ => trivial)
        all_goals (try dsimp only)
        all_goals first | rfl | exact fun _ _ => rfl | exact fun _ _ => trivial | skip
    · rename_i h0
      rw [i3, List.drop_eq_nil_of_le (by omega : (ptInts p).length ≤ i), List.drop_eq_getElem_cons (by omega : i < (ptInts q).length)]
      rfl
    · rename_i h1 h0
      rw [i3, List.drop_eq_nil_of_le (by omega : (ptInts q).length ≤ i), List.drop_eq_getElem_cons (by omega : i < (ptInts p).length)]
      rfl
    · rename_i h1 h0
      rw [i3, List.drop_eq_nil_of_le (by omega : (ptInts q).length ≤ i), List.drop_eq_nil_of_le (by omega : (ptInts p).length ≤ i)]
      rfl

end Go.Proofs.YthfkpmobmnfgcaaDoor.V

/-
  crimpref28.Ordered: creases of different units, in order. Conditions: none.
-/
namespace Go.Proofs.YthfkpmobmnfgcaaDoor.V
open Go

def ltK (x y : Cr) : Prop := x.c < y.c ∨ (x.c = y.c ∧ x.e < y.e)
instance (x y : Cr) : Decidable (ltK x y) := by unfold ltK; infer_instance
/-- No unit twice. -/
def unitsOK (l : List Cr) : Prop := l.Pairwise fun x y => ¬ (x.c = y.c ∧ x.e = y.e)
theorem leC_of_ltK {x y : Cr} (h : ltK x y) : leC x y := by
  unfold leC ltK at *
  simp only [ltC, decide_eq_false_iff_not]
  omega
theorem ltK_trans {x y z : Cr} (h : ltK x y) (k : ltK y z) : ltK x z := by unfold ltK at *; omega
theorem unitsOK_perm {l m : List Cr} (h : unitsOK l) (hp : m.Perm l) : unitsOK m := by
  refine List.Pairwise.perm h hp.symm ?_
  intro x y hxy hh
  exact hxy ⟨hh.1.symm, hh.2.symm⟩
theorem unitsOK_get {l : List Cr} (h : unitsOK l) {i j : Nat} (hi : i < l.length) (hj : j < l.length) (hij : i ≠ j) : ¬ ((l.getD i d0).c = (l.getD j d0).c ∧ (l.getD i d0).e = (l.getD j d0).e) := by
  have key : ∀ a b, a < b → b < l.length → ¬ ((l.getD a d0).c = (l.getD b d0).c ∧ (l.getD a d0).e = (l.getD b d0).e) := by
    intro a b hab hb
    have := List.pairwise_iff_getElem.1 h a b (by omega) hb hab
    simpa [List.getD_eq_getElem?_getD, hb, (by omega : a < l.length)] using this
  rcases Nat.lt_or_gt_of_ne hij with h1 | h1
  · exact key i j h1 hj
  · intro hh
    exact key j i h1 hi ⟨hh.1.symm, hh.2.symm⟩

/-- The state of the sort: places below i + 1 are in order but for the one that moves, at k, which is ahead of all behind it. -/
def midOK (l m : List Cr) (i k : Nat) : Prop := m.Perm l ∧ k ≤ i ∧ i < l.length ∧ (∀ a b, a < b → b ≤ i → a ≠ k → b ≠ k → ltK (m.getD a d0) (m.getD b d0)) ∧ ∀ j, k < j → j ≤ i → ltK (m.getD k d0) (m.getD j d0)
def topOK (l m : List Cr) (i : Nat) : Prop := m.Perm l ∧ 1 ≤ i ∧ ∀ a b, a < b → b < i → b < l.length → ltK (m.getD a d0) (m.getD b d0)
def swapL (m : List Cr) (k : Nat) : List Cr := (m.set (k - 1) (m.getD k d0)).set k (m.getD (k - 1) d0)
theorem swapL_perm {m : List Cr} {k : Nat} (h0 : 0 < k) (hk : k < m.length) : (swapL m k).Perm m := by
  have := @List.set_set_perm _ m (k - 1) k (by omega) hk
  simpa [swapL, List.getD_eq_getElem?_getD, hk, (by omega : k - 1 < m.length)] using this
theorem swapL_get {m : List Cr} {k j : Nat} (h0 : 0 < k) (hk : k < m.length) (hj : j < m.length) : (swapL m k).getD j d0 = if j = k then m.getD (k - 1) d0 else if j = k - 1 then m.getD k d0 else m.getD j d0 := by
  simp only [swapL, List.getD_eq_getElem?_getD, List.getElem?_set]
  by_cases h1 : j = k
  · subst h1; simp [hj]
  · by_cases h2 : j = k - 1
    · subst h2
      have : ¬ (k = k - 1) := by omega
      simp [this, hj, h1]
    · simp [h1, h2, Ne.symm h1, Ne.symm h2]
theorem mid_step {l m : List Cr} {i k : Nat} (h : midOK l m i k) (h0 : 0 < k) (hgt : ltK (m.getD k d0) (m.getD (k - 1) d0)) : midOK l (swapL m k) i (k - 1) := by
  obtain ⟨hp, h1, h2, h3, h4⟩ := h
  have hlen := hp.length_eq
  have hk : k < m.length := by omega
  refine ⟨(swapL_perm h0 hk).trans hp, by omega, h2, fun a b hab hb ha hb' => ?_, fun j hj hj' => ?_⟩
  · rw [swapL_get h0 hk (by omega), swapL_get h0 hk (by omega), if_neg ha, if_neg hb']
    by_cases e1 : a = k
    · subst e1
      rw [if_pos rfl, if_neg (by omega)]
      exact h3 (a - 1) b (by omega) hb (by omega) (by omega)
    · rw [if_neg e1]
      by_cases e2 : b = k
      · subst e2
        rw [if_pos rfl]
        exact h3 a (b - 1) (by omega) (by omega) (by omega) (by omega)
      · rw [if_neg e2]
        exact h3 a b hab hb e1 e2
  · rw [swapL_get h0 hk (by omega), swapL_get h0 hk (by omega), if_neg (by omega), if_pos rfl]
    by_cases e : j = k
    · subst e; rw [if_pos rfl]; exact hgt
    · rw [if_neg e, if_neg (by omega)]
      exact h4 j (by omega) hj'
theorem mid_start {l m : List Cr} {i : Nat} (h : topOK l m i) (hi : i < l.length) : midOK l m i i :=
  ⟨h.1, Nat.le_refl _, hi, fun a b hab hb ha hb' => h.2.2 a b hab (by omega) (by omega), fun j h1 h2 => absurd h1 (by omega)⟩
theorem mid_end {l m : List Cr} {i k : Nat} (hu : unitsOK l) (h : midOK l m i k) (he : k = 0 ∨ ¬ ltK (m.getD k d0) (m.getD (k - 1) d0)) : topOK l m (i + 1) := by
  obtain ⟨hp, h1, h2, h3, h4⟩ := h
  have hlen := hp.length_eq
  refine ⟨hp, by omega, fun a b hab hb hbl => ?_⟩
  by_cases e1 : a = k
  · subst e1; exact h4 b hab (by omega)
  · by_cases e2 : b = k
    · subst e2
      have hd := unitsOK_get (unitsOK_perm hu hp) (i := b) (j := b - 1) (by omega) (by omega) (by omega)
      have hlt : ltK (m.getD (b - 1) d0) (m.getD b d0) := by
        rcases he with he | he
        · omega
        · unfold ltK at *; omega
      by_cases e3 : a = b - 1
      · rw [e3]; exact hlt
      · exact ltK_trans (h3 a (b - 1) (by omega) (by omega) e1 (by omega)) hlt
    · exact h3 a b hab (by omega) e1 e2
theorem top_end {l m : List Cr} {i : Nat} (h : topOK l m i) (hi : l.length ≤ i) : m = sortCr l := by
  obtain ⟨hp, _, h3⟩ := h
  have hlen := hp.length_eq
  refine sortCr_unique hp (List.pairwise_iff_getElem.2 fun a b ha hb hab => ?_)
  have := leC_of_ltK (h3 a b hab (by omega) (by omega))
  simpa [List.getD_eq_getElem?_getD, ha, hb] using this

abbrev nOrdered : FuncId := 21
def eOrdered : EffK := fun T sz n g rest => match rest with
  | [] => if T = 55 ∧ sz = 3 then some (isCr n g ∧ n ≤ 100000 ∧ unitsOK (crL n g), rowOf (sortCr (crL n g)), true) else none
  | _ => none
def FOrdered : FamE := { ι := List Cr, T := 55, sz := 3, r := true, n := fun l => l.length, g := fun l => rowOf l, rest := fun _ => [], pre := fun l => l.length ≤ 100000 ∧ unitsOK l, g' := fun l => rowOf (sortCr l) }
def IOrdered (c : Option Nat) (l : List Cr) : Nat → Option Inv
  | 2 => some { β := List Cr × Nat, ok := fun (m, i) => topOK l m i, st := fun (m, i) => ⟨[⟨3, none, .int .i64 i⟩, ⟨0, none, .osl 0⟩], [.row 55 3 l.length (rowOf m) c]⟩, μ := fun (m, i) => l.length - i, sub := fun (_, i) => some fun
      | 5 => some { β := List Cr × Nat, ok := fun (m, k) => midOK l m i k, st := fun (m, k) => ⟨[⟨4, none, .int .i64 k⟩, ⟨3, none, .int .i64 i⟩, ⟨0, none, .osl 0⟩], [.row 55 3 l.length (rowOf m) c]⟩, μ := fun (m, k) => k }
      | _ => none }
  | _ => none
set_option maxHeartbeats 16000000 in
set_option maxRecDepth 100000 in
theorem xOrdered : ES nOrdered eOrdered := by
  refine conE [] (by simp) [] (by simp) (fun _ => false) FOrdered (fun c l => IOrdered c l) eOrdered ?_ ?_ Go.Proofs.Tryd.func21 (by kernel_rfl) (by kernel_rfl) (by kernel_rfl) ?_
  · intro T sz n g rest p g' r he hp
    unfold eOrdered at he
    split at he
    · split at he
      · rename_i hc
        obtain ⟨rfl, rfl⟩ := hc
        cases he
        obtain ⟨h1, h2, h4⟩ := hp
        exact ⟨crL n g, rfl, rfl, (crL_length n g).symm, rowOf_crL h1, trivial, ⟨by rw [crL_length]; exact h2, h4⟩, fun _ _ => rfl, rfl⟩
      · cases he
    · cases he
  · intro i; show 0 + 1 ≤ _; decide
  · intro v c (l : List Cr) hp
    replace hp : l.length ≤ 100000 ∧ unitsOK l := hp
    obtain ⟨hl, hu⟩ := hp
    rcases c with _ | c
    all_goals
      repeat (any_goals (first
        | (with_reducible refine And.intro (Ask.mk ?_) ?_
           first | exact trivial | exact fun _ => trivial)
        | with_reducible refine And.intro ?_ ?_
        | with_reducible refine Br.mk (fun h => ?_) (fun h => ?_)
        | with_reducible exact True.intro
        | (with_reducible refine Late.mk ?_
           exact rfl)
        | (fail_if_success with_reducible apply stopA
           fail_if_success with_reducible apply stopE
           fail_if_success with_reducible apply stopF
           fail_if_success with_reducible apply Exists.intro
           fail_if_success with_reducible intro _
           fail_if_success with_reducible apply stopK
           fail_if_success with_reducible apply stopL
           conv => whnf)))
      all_goals (try with_reducible refine Ask.mk ?_)
      all_goals (try first | exact trivial | exact fun _ => trivial)
      all_goals (try dsimp only)
      refine ⟨((l, 1) : List Cr × Nat), ⟨.refl _, by omega, fun a b h1 h2 => by omega⟩, ?_, ?_⟩
      · repeat (any_goals (first
          | (with_reducible refine And.intro (Ask.mk ?_) ?_
             first | exact trivial | exact fun _ => trivial)
          | with_reducible refine And.intro ?_ ?_
          | with_reducible refine Br.mk (fun h => ?_) (fun h => ?_)
          | with_reducible exact True.intro
          | (with_reducible refine Late.mk ?_
             exact rfl)
          | (fail_if_success with_reducible apply stopA
             fail_if_success with_reducible apply stopE
             fail_if_success with_reducible apply stopF
             fail_if_success with_reducible apply Exists.intro
             fail_if_success with_reducible intro _
             fail_if_success with_reducible apply stopK
             fail_if_success with_reducible apply stopL
             conv => whnf)))
        all_goals (try with_reducible refine Ask.mk ?_)
        all_goals (try first | exact trivial | exact fun _ => trivial)
        all_goals (try dsimp only)
        all_goals first | rfl | exact fun _ _ => rfl | exact fun _ _ => trivial | skip
      · rintro ⟨m, i⟩ ht
        replace ht : topOK l m i := ht
        have hz : (↑i : Int).toNat = i := Int.toNat_natCast i
        repeat (any_goals (first
          | (with_reducible refine And.intro (Ask.mk ?_) ?_
             first | exact trivial | exact fun _ => trivial)
          | with_reducible refine And.intro ?_ ?_
          | with_reducible refine Br.mk (fun h => ?_) (fun h => ?_)
          | with_reducible exact True.intro
          | (with_reducible refine Late.mk ?_
             exact rfl)
          | (fail_if_success with_reducible apply stopA
             fail_if_success with_reducible apply stopE
             fail_if_success with_reducible apply stopF
             fail_if_success with_reducible apply Exists.intro
             fail_if_success with_reducible intro _
             fail_if_success with_reducible apply stopK
             fail_if_success with_reducible apply stopL
             conv => whnf)))
        all_goals (try with_reducible refine Ask.mk ?_)
        all_goals (try first | exact trivial | exact fun _ => trivial)
        all_goals (try dsimp only)
        · replace h : i < l.length := by simpa using h
          refine ⟨((m, i) : List Cr × Nat), mid_start ht h, ?_, ?_⟩
          · repeat (any_goals (first
              | (with_reducible refine And.intro (Ask.mk ?_) ?_
                 first | exact trivial | exact fun _ => trivial)
              | with_reducible refine And.intro ?_ ?_
              | with_reducible refine Br.mk (fun h => ?_) (fun h => ?_)
              | with_reducible exact True.intro
              | (with_reducible refine Late.mk ?_
                 exact rfl)
              | (fail_if_success with_reducible apply stopA
                 fail_if_success with_reducible apply stopE
                 fail_if_success with_reducible apply stopF
                 fail_if_success with_reducible apply Exists.intro
                 fail_if_success with_reducible intro _
                 fail_if_success with_reducible apply stopK
                 fail_if_success with_reducible apply stopL
                 conv => whnf)))
            all_goals (try with_reducible refine Ask.mk ?_)
            all_goals (try first | exact trivial | exact fun _ => trivial)
            all_goals (try dsimp only)
            all_goals first | rfl | exact fun _ _ => rfl | exact fun _ _ => trivial | skip
          · rintro ⟨m, k⟩ hm
            replace hm : midOK l m i k := hm
            have hml : m.length = l.length := hm.1.length_eq
            obtain ⟨hm2, hm3⟩ : k ≤ i ∧ i < l.length := ⟨hm.2.1, hm.2.2.1⟩
            have hz : (↑k : Int).toNat = k := Int.toNat_natCast k
            repeat (any_goals (first
              | (with_reducible refine And.intro (Ask.mk ?_) ?_
                 first | exact trivial | exact fun _ => trivial)
              | with_reducible refine And.intro ?_ ?_
              | with_reducible refine Br.mk (fun h => ?_) (fun h => ?_)
              | with_reducible exact True.intro
              | (with_reducible refine Late.mk ?_
                 exact rfl)
              | (fail_if_success with_reducible apply stopA
                 fail_if_success with_reducible apply stopE
                 fail_if_success with_reducible apply stopF
                 fail_if_success with_reducible apply Exists.intro
                 fail_if_success with_reducible intro _
                 fail_if_success with_reducible apply stopK
                 fail_if_success with_reducible apply stopL
                 conv => whnf)))
            all_goals (try with_reducible refine Ask.mk ?_)
            all_goals (try first | exact trivial | exact fun _ => trivial)
            all_goals (try dsimp only)
            all_goals (try (intro hh; have hk : (0 : Int) < k := by (first | exact of_decide_eq_true hh | exact of_decide_eq_true hh.1 | exact of_decide_eq_true hh.1.1)); first | omega | (simp only [inK]; omega) | (show (↑k - 1 : Int).toNat < l.length; omega) | (show (↑k : Int).toNat < l.length; omega))
            all_goals (try (have hk : (0 : Int) < k := by (simp only [Bool.and_eq_true, decide_eq_true_eq] at h; exact h.1)); first | omega | (simp only [inK]; omega) | (show (↑k - 1 : Int).toNat < l.length; omega) | (show (↑k : Int).toNat < l.length; omega))
            all_goals (try (simp only [inK]; omega))
            · simp only [Bool.and_eq_true, Bool.or_eq_true, decide_eq_true_eq] at h
              have hk : 0 < k := by omega
              have hz1 : (↑k - 1 : Int).toNat = k - 1 := by omega
              have hg : ltK (m.getD k d0) (m.getD (k - 1) d0) := by
                have h2 := h.2
                rw [hz, hz1] at h2
                unfold ltK
                omega
              refine ⟨((swapL m k, k - 1) : List Cr × Nat), mid_step hm hk hg, by show k - 1 < k; omega, ?_⟩
              repeat (any_goals (first
                | (with_reducible refine And.intro (Ask.mk ?_) ?_
                   first | exact trivial | exact fun _ => trivial)
                | with_reducible refine And.intro ?_ ?_
                | with_reducible refine Br.mk (fun h => ?_) (fun h => ?_)
                | with_reducible exact True.intro
                | (with_reducible refine Late.mk ?_
                   exact rfl)
                | (fail_if_success with_reducible apply stopA
                   fail_if_success with_reducible apply stopE
                   fail_if_success with_reducible apply stopF
                   fail_if_success with_reducible apply Exists.intro
                   fail_if_success with_reducible intro _
                   fail_if_success with_reducible apply stopK
                   fail_if_success with_reducible apply stopL
                   conv => whnf)))
              all_goals (try with_reducible refine Ask.mk ?_)
              all_goals (try first | exact trivial | exact fun _ => trivial)
              all_goals (try dsimp only)
              all_goals first | rfl | exact fun _ _ => rfl | exact fun _ _ => trivial | skip
              · simp only [hz, hz1]
                rw [if_neg (by omega : ¬ k = k - 1)]
                intro j hj
                show _ = crSV ((swapL m k).getD j d0)
                rw [swapL_get hk (by omega) (by omega)]
                split
                · rfl
                · split
                  · rfl
                  · rfl
              · omega
            · simp only [Bool.and_eq_false_iff, Bool.or_eq_false_iff, decide_eq_false_iff_not] at h
              have hg : k = 0 ∨ ¬ ltK (m.getD k d0) (m.getD (k - 1) d0) := by
                by_cases hk : k = 0
                · exact .inl hk
                · right
                  have hz1 : (↑k - 1 : Int).toNat = k - 1 := by omega
                  rw [hz, hz1] at h
                  unfold ltK
                  omega
              refine ⟨((m, i + 1) : List Cr × Nat), mid_end hu hm hg, by show l.length - (i + 1) < l.length - _; omega, ?_⟩
              repeat (any_goals (first
                | (with_reducible refine And.intro (Ask.mk ?_) ?_
                   first | exact trivial | exact fun _ => trivial)
                | with_reducible refine And.intro ?_ ?_
                | with_reducible refine Br.mk (fun h => ?_) (fun h => ?_)
                | with_reducible exact True.intro
                | (with_reducible refine Late.mk ?_
                   exact rfl)
                | (fail_if_success with_reducible apply stopA
                   fail_if_success with_reducible apply stopE
                   fail_if_success with_reducible apply stopF
                   fail_if_success with_reducible apply Exists.intro
                   fail_if_success with_reducible intro _
                   fail_if_success with_reducible apply stopK
                   fail_if_success with_reducible apply stopL
                   conv => whnf)))
              all_goals (try with_reducible refine Ask.mk ?_)
              all_goals (try first | exact trivial | exact fun _ => trivial)
              all_goals (try dsimp only)
              all_goals first | rfl | exact fun _ _ => rfl | exact fun _ _ => trivial | skip
        · rfl
        · rfl
        · rfl
        · replace h : ¬ i < l.length := by simpa using h
          rw [top_end ht (by omega)]
          exact fun _ _ => rfl

end Go.Proofs.YthfkpmobmnfgcaaDoor.V

