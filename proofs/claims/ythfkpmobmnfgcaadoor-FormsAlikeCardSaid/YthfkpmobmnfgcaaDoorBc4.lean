/-
  Parts of the proof: P8 Q1 Q2 P11 P12 P13 P13d. Conditions: none.
-/
import Derived.Test.YthfkpmobmnfgcaaDoorBc3
import Derived.Shelf.SlSortCmp.NoneTotal
import Derived.Shelf.Lay
import Derived.Ground.SlsfProg
import Derived.Test.YthfkpmobmnfgcaaDoorChecked
/-
  Contracts: searching rows of creases; comparing them. Conditions: none.
-/
namespace Go.Proofs.YthfkpmobmnfgcaaDoor.V
open Go

def badK (x : Cr) : Bool := !isKB x.k
def fIdx (p : Cr → Bool) (l : List Cr) : Int := match l.findIdx? p with
  | some i => i
  | none => -1
theorem fIdx_hit {p : Cr → Bool} {l : List Cr} {i : Nat} (hi : i < l.length) (h : ∀ j, j < i → p (l.getD j d0) = false) (hp : p (l.getD i d0) = true) : fIdx p l = i := by
  have : l.findIdx? p = some i := by
    rw [List.findIdx?_eq_some_iff_getElem]
    refine ⟨hi, ?_, fun j hj => ?_⟩
    · simpa [List.getD_eq_getElem?_getD, hi] using hp
    · have := h j hj
      have hj' : j < l.length := by omega
      simpa [List.getD_eq_getElem?_getD, hj'] using this
  simp [fIdx, this]
theorem fIdx_none {p : Cr → Bool} {l : List Cr} (h : ∀ j, j < l.length → p (l.getD j d0) = false) : fIdx p l = -1 := by
  have : l.findIdx? p = none := by
    rw [List.findIdx?_eq_none_iff]
    intro x hx
    obtain ⟨j, hj, rfl⟩ := List.mem_iff_getElem.1 hx
    have := h j hj
    simpa [List.getD_eq_getElem?_getD, hj] using this
  simp [fIdx, this]
theorem fIdx_any (p : Cr → Bool) (l : List Cr) : decide (0 ≤ fIdx p l) = l.any p := by
  unfold fIdx
  cases h : l.findIdx? p with
  | none =>
    have := List.findIdx?_eq_none_iff.1 h
    have : l.any p = false := by
      rw [List.any_eq_false]
      intro x hx
      simpa using this x hx
    rw [this]; rfl
  | some i =>
    have := List.findIdx?_eq_some_iff_getElem.1 h
    obtain ⟨hi, hp, _⟩ := this
    have : l.any p = true := List.any_eq_true.2 ⟨_, List.getElem_mem hi, hp⟩
    rw [this]
    simp

abbrev nIndexFunc : FuncId := 50
def kIndexFunc : Kon
  | [x, .clo g []] => if g = nCheck1 then match asCr x with
    | some (n, f) => some (isCr n f ∧ n ≤ 100000, .int .i64 (fIdx badK (crL n f)))
    | none => none
    else none
  | _ => none
def FIndexFunc : Fam := ⟨List Cr, fun l => [.sl 3 l.length (rowOf l) none, .clo nCheck1 []], fun l => l.length ≤ 100000, fun l => .int .i64 (fIdx badK l)⟩
def IIndexFunc (l : List Cr) : Nat → Option Inv
  | 2 => some { β := Nat, ok := fun i => i ≤ l.length ∧ ∀ j, j < i → badK (l.getD j d0) = false, st := fun i => ⟨[⟨8, none, .int .i64 i⟩, ⟨7, none, .int .i64 l.length⟩, ⟨0, none, .sl 3 l.length (rowOf l) none⟩, ⟨1, none, .clo nCheck1 []⟩], []⟩, μ := fun i => l.length - i }
  | _ => none
set_option maxRecDepth 100000 in
theorem pIndexFunc : PS nIndexFunc kIndexFunc := by
  refine con [(nCheck1, kCheck1)] (by simpa using pCheck1) FIndexFunc (fun l => IIndexFunc l) kIndexFunc ?_ ?_ Go.Proofs.Tryd.func50 (by kernel_rfl) (by kernel_rfl) (by kernel_rfl) ?_
  · intro args pre s h hp
    unfold kIndexFunc at h
    split at h
    · split at h
      · rename_i hg
        subst hg
        split at h
        · rename_i n f hx
          cases h
          exact ⟨crL n f, ⟨le2_sl (asCr_le hx hp.1), ⟨rfl, rfl⟩, trivial⟩, by simp only [FIndexFunc, crL_length]; exact hp.2, rfl⟩
        · cases h
      · cases h
    · cases h
  · intro i; show 2 ≤ _; decide
  · intro (l : List Cr) hp
    replace hp : l.length ≤ 100000 := hp
    repeat (any_goals (first
      | (with_reducible refine And.intro (Ask.mk ?_) ?_
         first | exact trivial | exact fun _ => trivial)
      | with_reducible refine And.intro ?_ ?_
      | with_reducible refine Br.mk (fun h => ?_) (fun h => ?_)
      | with_reducible exact True.intro
      | (with_reducible refine Late.mk ?_
         exact rfl)
      | (fail_if_success with_reducible apply stopA
         fail_if_success with_reducible apply stopE
         fail_if_success with_reducible apply stopF
         fail_if_success with_reducible apply Exists.intro
         fail_if_success with_reducible intro _
         fail_if_success with_reducible apply stopK
         fail_if_success with_reducible apply stopL
         conv => whnf)))
    all_goals (try with_reducible refine Ask.mk ?_)
    all_goals (try first | exact trivial | exact fun _ => trivial)
    all_goals (try dsimp only)
    refine ⟨(0 : Nat), ⟨by omega, fun j hj => by omega⟩, ?_, ?_⟩
    · repeat (any_goals (first
        | (with_reducible refine And.intro (Ask.mk ?_) ?_
           first | exact trivial | exact fun _ => trivial)
        | with_reducible refine And.intro ?_ ?_
        | with_reducible refine Br.mk (fun h => ?_) (fun h => ?_)
        | with_reducible exact True.intro
        | (with_reducible refine Late.mk ?_
           exact rfl)
        | (fail_if_success with_reducible apply stopA
           fail_if_success with_reducible apply stopE
           fail_if_success with_reducible apply stopF
           fail_if_success with_reducible apply Exists.intro
           fail_if_success with_reducible intro _
           fail_if_success with_reducible apply stopK
           fail_if_success with_reducible apply stopL
           conv => whnf)))
      all_goals (try with_reducible refine Ask.mk ?_)
      all_goals (try first | exact trivial | exact fun _ => trivial)
      all_goals (try dsimp only)
      all_goals first | rfl | exact fun _ _ => rfl | skip
    · rintro i ⟨hi1, hi2⟩
      repeat (any_goals (first
        | (with_reducible refine And.intro (Ask.mk ?_) ?_
           first | exact trivial | exact fun _ => trivial)
        | with_reducible refine And.intro ?_ ?_
        | with_reducible refine Br.mk (fun h => ?_) (fun h => ?_)
        | with_reducible exact True.intro
        | (with_reducible refine Late.mk ?_
           exact rfl)
        | (fail_if_success with_reducible apply stopA
           fail_if_success with_reducible apply stopE
           fail_if_success with_reducible apply stopF
           fail_if_success with_reducible apply Exists.intro
           fail_if_success with_reducible intro _
           fail_if_success with_reducible apply stopK
           fail_if_success with_reducible apply stopL
           conv => whnf)))
      all_goals (try with_reducible refine Ask.mk ?_)
      all_goals (try first | exact trivial | exact fun _ => trivial)
      all_goals (try dsimp only)
      · simp at h; omega
      · rename_i h0; simp at h0
        exact (fIdx_hit h0 hi2 h).symm
      · simp only [inK]; omega
      · rename_i h0; simp at h0
        refine ⟨i + 1, ⟨by omega, fun j hj => ?_⟩, by omega, ?_⟩
        · by_cases e : j = i
          · subst e; exact h
          · exact hi2 j (by omega)
        · repeat (any_goals (first
            | (with_reducible refine And.intro (Ask.mk ?_) ?_
               first | exact trivial | exact fun _ => trivial)
            | with_reducible refine And.intro ?_ ?_
            | with_reducible refine Br.mk (fun h => ?_) (fun h => ?_)
            | with_reducible exact True.intro
            | (with_reducible refine Late.mk ?_
               exact rfl)
            | (fail_if_success with_reducible apply stopA
               fail_if_success with_reducible apply stopE
               fail_if_success with_reducible apply stopF
               fail_if_success with_reducible apply Exists.intro
               fail_if_success with_reducible intro _
               fail_if_success with_reducible apply stopK
               fail_if_success with_reducible apply stopL
               conv => whnf)))
          all_goals (try with_reducible refine Ask.mk ?_)
          all_goals (try first | exact trivial | exact fun _ => trivial)
          all_goals (try dsimp only)
          all_goals first | rfl | exact fun _ _ => rfl | omega
      · simp at h
        exact (fIdx_none (fun j hj => hi2 j (by omega))).symm

abbrev nContains : FuncId := 34
def kContains : Kon
  | [x, .clo g []] => if g = nCheck1 then match asCr x with
    | some (n, f) => some (isCr n f ∧ n ≤ 100000, .bool ((crL n f).any badK))
    | none => none
    else none
  | _ => none
def FContains : Fam := ⟨List Cr, fun l => [.sl 3 l.length (rowOf l) none, .clo nCheck1 []], fun l => l.length ≤ 100000, fun l => .bool (l.any badK)⟩
set_option maxRecDepth 100000 in
theorem pContains : PS nContains kContains := by
  refine con [(nIndexFunc, kIndexFunc)] (by simpa using pIndexFunc) FContains (fun _ _ => none) kContains ?_ ?_ Go.Proofs.Tryd.func34 (by kernel_rfl) (by kernel_rfl) (by kernel_rfl) ?_
  · intro args pre s h hp
    unfold kContains at h
    split at h
    · split at h
      · rename_i hg
        subst hg
        split at h
        · rename_i n f hx
          cases h
          exact ⟨crL n f, ⟨le2_sl (asCr_le hx hp.1), ⟨rfl, rfl⟩, trivial⟩, by simp only [FContains, crL_length]; exact hp.2, rfl⟩
        · cases h
      · cases h
    · cases h
  · intro i; show 2 ≤ _; decide
  · intro (l : List Cr) hp
    replace hp : l.length ≤ 100000 := hp
    repeat (any_goals (first
      | (with_reducible refine And.intro (Ask.mk ?_) ?_
         first | exact trivial | exact fun _ => trivial)
      | with_reducible refine And.intro ?_ ?_
      | with_reducible refine Br.mk (fun h => ?_) (fun h => ?_)
      | with_reducible exact True.intro
      | (with_reducible refine Late.mk ?_
         exact rfl)
      | (fail_if_success with_reducible apply stopA
         fail_if_success with_reducible apply stopE
         fail_if_success with_reducible apply stopF
         fail_if_success with_reducible apply Exists.intro
         fail_if_success with_reducible intro _
         fail_if_success with_reducible apply stopK
         fail_if_success with_reducible apply stopL
         conv => whnf)))
    all_goals (try with_reducible refine Ask.mk ?_)
    all_goals (try first | exact trivial | exact fun _ => trivial)
    all_goals (try dsimp only)
    · exact ⟨isCr_rowOf l, hp⟩
    · rw [crL_rowOf]; exact fIdx_any _ _

def cmpC (x y : Cr) : Int := or3 (cmpI x.c y.c) (cmpI x.e y.e) (cmpI x.k y.k)
def cmpL : List Cr → List Cr → Int
  | [], [] => 0
  | [], _ :: _ => -1
  | _ :: _, [] => 1
  | x :: l, y :: m => if cmpC x y = 0 then cmpL l m else cmpC x y
theorem drop_getD {l : List Cr} {i : Nat} (h : i < l.length) : l.drop i = l.getD i d0 :: l.drop (i + 1) := by
  rw [List.drop_eq_getElem_cons h]
  simp [List.getD_eq_getElem?_getD, h]
abbrev nCompareFunc : FuncId := 31
def kCompareFunc : Kon
  | [x, y, .clo g []] => if g = nCompare then match asCr x, asCr y with
    | some (n, f), some (m, g) => some (isCr n f ∧ isCr m g ∧ n ≤ 100000, .int .i64 (cmpL (crL n f) (crL m g)))
    | _, _ => none
    else none
  | _ => none
def FCompareFunc : Fam := ⟨List Cr × List Cr, fun (l, m) => [.sl 3 l.length (rowOf l) none, .sl 3 m.length (rowOf m) none, .clo nCompare []], fun (l, _) => l.length ≤ 100000, fun (l, m) => .int .i64 (cmpL l m)⟩
def ICompareFunc (l m : List Cr) : Nat → Option Inv
  | 2 => some { β := Nat, ok := fun i => i ≤ l.length ∧ i ≤ m.length ∧ cmpL l m = cmpL (l.drop i) (m.drop i), st := fun i => ⟨[⟨13, none, .int .i64 i⟩, ⟨12, none, .int .i64 l.length⟩, ⟨11, none, .sl 3 l.length (rowOf l) none⟩, ⟨0, none, .sl 3 l.length (rowOf l) none⟩, ⟨1, none, .sl 3 m.length (rowOf m) none⟩, ⟨2, none, .clo nCompare []⟩], []⟩, μ := fun i => l.length - i }
  | _ => none
set_option maxRecDepth 100000 in
theorem pCompareFunc : PS nCompareFunc kCompareFunc := by
  refine con [(nCompare, kCompare)] (by simpa using pCompare) FCompareFunc (fun (l, m) => ICompareFunc l m) kCompareFunc ?_ ?_ Go.Proofs.Tryd.func31 (by kernel_rfl) (by kernel_rfl) (by kernel_rfl) ?_
  · intro args pre s h hp
    unfold kCompareFunc at h
    split at h
    · split at h
      · rename_i hg
        subst hg
        split at h
        · rename_i n f m g hx hy
          cases h
          exact ⟨(crL n f, crL m g), ⟨le2_sl (asCr_le hx hp.1), le2_sl (asCr_le hy hp.2.1), ⟨rfl, rfl⟩, trivial⟩, by simp only [FCompareFunc, crL_length]; exact hp.2.2, rfl⟩
        · cases h
      · cases h
    · cases h
  · intro i; show 3 ≤ _; decide
  · rintro ⟨l, m⟩ hp
    replace hp : l.length ≤ 100000 := hp
    repeat (any_goals (first
      | (with_reducible refine And.intro (Ask.mk ?_) ?_
         first | exact trivial | exact fun _ => trivial)
      | with_reducible refine And.intro ?_ ?_
      | with_reducible refine Br.mk (fun h => ?_) (fun h => ?_)
      | with_reducible exact True.intro
      | (with_reducible refine Late.mk ?_
         exact rfl)
      | (fail_if_success with_reducible apply stopA
         fail_if_success with_reducible apply stopE
         fail_if_success with_reducible apply stopF
         fail_if_success with_reducible apply Exists.intro
         fail_if_success with_reducible intro _
         fail_if_success with_reducible apply stopK
         fail_if_success with_reducible apply stopL
         conv => whnf)))
    all_goals (try with_reducible refine Ask.mk ?_)
    all_goals (try first | exact trivial | exact fun _ => trivial)
    all_goals (try dsimp only)
    refine ⟨(0 : Nat), ⟨by omega, by omega, by simp⟩, ?_, ?_⟩
    · repeat (any_goals (first
        | (with_reducible refine And.intro (Ask.mk ?_) ?_
           first | exact trivial | exact fun _ => trivial)
        | with_reducible refine And.intro ?_ ?_
        | with_reducible refine Br.mk (fun h => ?_) (fun h => ?_)
        | with_reducible exact True.intro
        | (with_reducible refine Late.mk ?_
           exact rfl)
        | (fail_if_success with_reducible apply stopA
           fail_if_success with_reducible apply stopE
           fail_if_success with_reducible apply stopF
           fail_if_success with_reducible apply Exists.intro
           fail_if_success with_reducible intro _
           fail_if_success with_reducible apply stopK
           fail_if_success with_reducible apply stopL
           conv => whnf)))
      all_goals (try with_reducible refine Ask.mk ?_)
      all_goals (try first | exact trivial | exact fun _ => trivial)
      all_goals (try dsimp only)
      all_goals first | rfl | exact fun _ _ => rfl | skip
    · rintro i ⟨hi1, hi2, hi3⟩
      repeat (any_goals (first
        | (with_reducible refine And.intro (Ask.mk ?_) ?_
           first | exact trivial | exact fun _ => trivial)
        | with_reducible refine And.intro ?_ ?_
        | with_reducible refine Br.mk (fun h => ?_) (fun h => ?_)
        | with_reducible exact True.intro
        | (with_reducible refine Late.mk ?_
           exact rfl)
        | (fail_if_success with_reducible apply stopA
           fail_if_success with_reducible apply stopE
           fail_if_success with_reducible apply stopF
           fail_if_success with_reducible apply Exists.intro
           fail_if_success with_reducible intro _
           fail_if_success with_reducible apply stopK
           fail_if_success with_reducible apply stopL
           conv => whnf)))
      all_goals (try with_reducible refine Ask.mk ?_)
      all_goals (try first | exact trivial | exact fun _ => trivial)
      all_goals (try dsimp only)
      · simp at h; omega
      · rename_i h0; simp at h0 h
        rw [hi3, drop_getD h0, List.drop_eq_nil_of_le (by omega : m.length ≤ i)]
        rfl
      · simp at h; omega
      · rename_i h1 h0; simp at h0 h1 h
        rw [hi3, drop_getD h1, drop_getD h0]
        simp only [cmpL]
        rw [if_neg (by simpa [cmpC] using h)]
        rfl
      · simp only [inK]; omega
      · rename_i h1 h0; simp at h0 h1 h
        refine ⟨i + 1, ⟨by omega, by omega, ?_⟩, by omega, ?_⟩
        · rw [hi3, drop_getD h1, drop_getD h0]
          simp only [cmpL]
          rw [if_pos (by simpa [cmpC] using h)]
        · repeat (any_goals (first
            | (with_reducible refine And.intro (Ask.mk ?_) ?_
               first | exact trivial | exact fun _ => trivial)
            | with_reducible refine And.intro ?_ ?_
            | with_reducible refine Br.mk (fun h => ?_) (fun h => ?_)
            | with_reducible exact True.intro
            | (with_reducible refine Late.mk ?_
               exact rfl)
            | (fail_if_success with_reducible apply stopA
               fail_if_success with_reducible apply stopE
               fail_if_success with_reducible apply stopF
               fail_if_success with_reducible apply Exists.intro
               fail_if_success with_reducible intro _
               fail_if_success with_reducible apply stopK
               fail_if_success with_reducible apply stopL
               conv => whnf)))
          all_goals (try with_reducible refine Ask.mk ?_)
          all_goals (try first | exact trivial | exact fun _ => trivial)
          all_goals (try dsimp only)
          all_goals first | rfl | exact fun _ _ => rfl | omega
      · rename_i h0; simp at h0 h
        rw [hi3, drop_getD (by omega : i < m.length), List.drop_eq_nil_of_le (by omega : l.length ≤ i)]
        rfl
      · rename_i h0; simp at h0 h
        rw [hi3, List.drop_eq_nil_of_le (by omega : m.length ≤ i), List.drop_eq_nil_of_le (by omega : l.length ≤ i)]
        rfl

end Go.Proofs.YthfkpmobmnfgcaaDoor.V

/-
  Rows that the library sorts: the worlds of a sort seen as rows of the logic. Conditions: none.
-/
namespace Go.Proofs.YthfkpmobmnfgcaaDoor.V
open Go Go.Sort

theorem heap_sort_other {α : Type} [Inhabited α] {enc : α → List Value} {k : Nat} {w : World} {b o m : Nat} {dk : Array α} {os : Array Obj} {i : Nat} (hi : i < w.heap.size) (hne : i ≠ b) : (sortWorldK enc k w b o m dk os).heap[i]? = w.heap[i]? := by
  unfold sortWorldK putRowK
  rw [heap_grow_old _ _ (by simpa using hi)]
  show (w.heap.modify b _)[i]? = _
  rw [Array.getElem?_modify, if_neg (Ne.symm hne)]

theorem heap_sort_same {α : Type} [Inhabited α] {enc : α → List Value} {k : Nat} {w : World} {b o m : Nat} {dk : Array α} {os : Array Obj} {c : Array Value} {T : TypeId} {z : Nat × Nat} (h : w.heap[b]? = some (.cells c T z)) : (sortWorldK enc k w b o m dk os).heap[b]? = some (.cells (putCells id o (flatK enc k dk) c) T z) := by
  have hi : b < w.heap.size := (Array.getElem?_eq_some_iff.1 h).1
  unfold sortWorldK putRowK
  rw [heap_grow_old _ _ (by simpa using hi)]
  show (w.heap.modify b _)[b]? = _
  rw [Array.getElem?_modify, if_pos rfl, h]
  rfl

theorem size_sort {α : Type} [Inhabited α] {enc : α → List Value} {k : Nat} {w : World} {b o m : Nat} {dk : Array α} {os : Array Obj} : w.heap.size ≤ (sortWorldK enc k w b o m dk os).heap.size := by
  unfold sortWorldK putRowK
  simp

theorem fr_sort {α : Type} [Inhabited α] {enc : α → List Value} {k : Nat} {w : World} {b o m : Nat} {dk : Array α} {os : Array Obj} {X : Nat → Prop} (hb : X b) : Fr w.heap.size X w (sortWorldK enc k w b o m dk os) :=
  ⟨rfl, rfl, rfl, Nat.le_add_right _ _, size_sort, fun _ hi hX => heap_sort_other hi (fun e => hX (e ▸ hb))⟩

/-- What only adds, and draws on, is a world of the sort's. -/
theorem grow_of_fr {X : Nat → Prop} {w w' : World} (h : Fr w.heap.size X w w') (hX : ∀ i, ¬ X i) : ∃ q os, w' = grow (w.drewN q) os := by
  refine ⟨w'.drawn - w.drawn, w'.heap.extract w.heap.size w'.heap.size, ?_⟩
  have h1 := h.drawn
  have h2 : w'.heap = w.heap ++ w'.heap.extract w.heap.size w'.heap.size := by
    apply Array.ext_getElem?
    intro i
    rw [Array.getElem?_append]
    split
    · rename_i hi; exact h.block i hi (hX i)
    · rename_i hi
      have := h.size
      rw [Array.getElem?_extract]
      split
      · congr 1; omega
      · rw [Array.getElem?_eq_none]; omega
  have h3 := h.os
  have h4 := h.tape
  have h5 := h.output
  cases w'
  cases w
  simp only [grow, World.drewN, World.mk.injEq] at *
  subst h3 h4 h5
  exact ⟨h2, rfl, by omega, rfl, rfl⟩

theorem getD_putCells {F c : Array Value} {o t : Nat} (h : t < F.size) (hc : o + t < c.size) : (putCells id o F c)[o + t]? = some F[t]! := by
  simp only [putCells, Array.getElem?_mapIdx]
  rw [Array.getElem?_eq_getElem hc]
  simp only [Option.map_some]
  rw [if_pos ⟨by omega, by omega⟩, show o + t - o = t by omega]
  rfl
theorem size_putCells {F c : Array Value} {o : Nat} : (putCells id o F c).size = c.size := by simp [putCells]
theorem mem_putCells {F c : Array Value} {o : Nat} {v : Value} (hF : ∀ t, t < F.size → F[t]!.oneCell' = true) (hc : ∀ v ∈ c, v.oneCell' = true) (h : v ∈ putCells id o F c) : v.oneCell' = true := by
  obtain ⟨i, hi, rfl⟩ := Array.mem_iff_getElem.1 h
  have hi' : i < c.size := by rw [size_putCells] at hi; exact hi
  simp only [putCells, Array.getElem_mapIdx]
  split
  · exact hF _ (by omega)
  · exact hc _ (Array.getElem_mem hi')

theorem flat_one {α : Type} [Inhabited α] {enc : α → List Value} {k : Nat} {d : Array α} (hk : ∀ x, (enc x).length = k) (h1 : ∀ x, ∀ v ∈ enc x, v.oneCell' = true) {t : Nat} (ht : t < (flatK enc k d).size) : (flatK enc k d)[t]!.oneCell' = true := by
  rw [size_flatK] at ht
  rw [get_flatK _ _ _ _ ht]
  have k0 : 0 < k := by
    rcases Nat.eq_zero_or_pos k with h | h
    · subst h; simp at ht
    · exact h
  have : t % k < (enc d[t / k]!).length := by rw [hk]; exact Nat.mod_lt _ k0
  rw [getElem!_pos (enc d[t / k]!) (t % k) this]
  exact h1 _ _ (List.getElem_mem this)
theorem flat_at {α : Type} [Inhabited α] {enc : α → List Value} {k : Nat} {d : Array α} {i j : Nat} (hi : i < d.size) (hj : j < k) : i * k + j < (flatK enc k d).size ∧ (flatK enc k d)[i * k + j]! = (enc d[i]!)[j]! := by
  have lt : i * k + j < d.size * k := by
    have := Nat.mul_le_mul_right k (show i + 1 ≤ d.size from hi); rw [Nat.add_mul, Nat.one_mul] at this; omega
  have e1 : (i * k + j) / k = i := (blk_iff k i _ (by omega)).1 ⟨by omega, by omega⟩
  have e2 : (i * k + j) % k = j := by rw [Nat.mod_eq_sub_div_mul, e1]; omega
  exact ⟨by simpa using lt, by rw [get_flatK _ _ _ _ lt, e1, e2]⟩

end Go.Proofs.YthfkpmobmnfgcaaDoor.V

/-
  slices.SortFunc of creases by forms.compare: what the row holds behind the call. Conditions: none.
-/
namespace Go.Proofs
open Go Go.Shelf Go.RowKit Go.Lib Go.Sort
shelf_lay_g SlLaysF0.n6 Slsf 6 at Tryd 45 as Tryd.sortCrease
end Go.Proofs
namespace Go.Proofs.YthfkpmobmnfgcaaDoor.V
open Go Go.Sort Go.Proofs

instance : Inhabited Cr := ⟨d0⟩
def encCr (x : Cr) : List Value := [.int .i64 x.c, .int .u8 x.e, .int .u8 x.k]
def ltC (x y : Cr) : Bool := decide (x.c < y.c ∨ (x.c = y.c ∧ (x.e < y.e ∨ (x.e = y.e ∧ x.k < y.k))))
theorem ltOf_cmpC (x y : Cr) : ltOf cmpC x y = ltC x y := by
  unfold ltOf ltC
  rw [decide_eq_decide]
  unfold cmpC or3 cmpI
  split <;> (repeat' split) <;> omega
theorem swoCr : SWO (ltOf cmpC) where
  irrefl x := by simp [ltOf_cmpC, ltC]
  trans x y z h1 h2 := by rw [ltOf_cmpC] at *; simp only [ltC, decide_eq_true_eq] at *; omega
  ntrans x y z h1 h2 := by rw [ltOf_cmpC] at *; simp only [ltC, decide_eq_false_iff_not] at *; omega
def insC (x : Cr) : List Cr → List Cr
  | [] => [x]
  | y :: r => if ltC y x then y :: insC x r else x :: y :: r
def sortCr (l : List Cr) : List Cr := l.foldr insC []
theorem insC_perm (x : Cr) : ∀ l : List Cr, (insC x l).Perm (x :: l)
  | [] => .refl _
  | y :: r => by
    unfold insC
    split
    · exact ((insC_perm x r).cons y).trans (.swap x y r)
    · exact .refl _
theorem sortCr_perm : ∀ l : List Cr, (sortCr l).Perm l
  | [] => .refl _
  | x :: r => (insC_perm x _).trans ((sortCr_perm r).cons x)
theorem sortCr_length (l : List Cr) : (sortCr l).length = l.length := (sortCr_perm l).length_eq
/-- Ascending: no later one is less. -/
def leC (x y : Cr) : Prop := ltC y x = false
theorem leC_trans {x y z : Cr} (h : leC x y) (k : leC y z) : leC x z := by
  unfold leC at *
  simp only [ltC, decide_eq_false_iff_not] at *
  omega
theorem leC_total (x y : Cr) : leC x y ∨ leC y x := by
  unfold leC
  simp only [ltC, decide_eq_false_iff_not]
  omega
theorem leC_anti {x y : Cr} (h : leC x y) (k : leC y x) : x = y := by
  unfold leC at *
  simp only [ltC, decide_eq_false_iff_not] at *
  cases x; cases y
  simp only [Cr.mk.injEq] at *
  omega
theorem leC_of_lt {x y : Cr} (h : ltC x y = true) : leC x y := by
  unfold leC
  simp only [ltC, decide_eq_false_iff_not, decide_eq_true_eq] at *
  omega
theorem insC_sorted (x : Cr) : ∀ {l : List Cr}, l.Pairwise leC → (insC x l).Pairwise leC
  | [], _ => List.pairwise_singleton _ _
  | y :: r, h => by
    unfold insC
    split
    · rename_i hlt
      rw [List.pairwise_cons] at h ⊢
      refine ⟨fun z hz => ?_, insC_sorted x h.2⟩
      rcases List.mem_cons.1 ((insC_perm x r).mem_iff.1 hz) with rfl | hz
      · exact leC_of_lt hlt
      · exact h.1 z hz
    · rename_i hlt
      have hle : leC x y := by unfold leC; simpa using hlt
      rw [List.pairwise_cons]
      refine ⟨fun z hz => ?_, h⟩
      rcases List.mem_cons.1 hz with rfl | hz
      · exact hle
      · exact leC_trans hle ((List.pairwise_cons.1 h).1 z hz)
theorem sortCr_sorted : ∀ l : List Cr, (sortCr l).Pairwise leC
  | [] => .nil
  | x :: r => insC_sorted x (sortCr_sorted r)
theorem sortCr_unique {l m : List Cr} (hp : m.Perm l) (hs : m.Pairwise leC) : m = sortCr l :=
  List.Perm.eq_of_pairwise (le := leC) (fun _ _ _ _ h k => leC_anti h k) hs (sortCr_sorted l) (hp.trans (sortCr_perm l).symm)
theorem merge_sortCr (l : List Cr) : (l.mergeSort fun x y => !(ltC y x)) = sortCr l := by
  refine sortCr_unique (List.mergeSort_perm _ _) ?_
  have := List.pairwise_mergeSort (le := fun x y => !(ltC y x)) (fun x y z h k => by
    have h' : leC x y := by simpa [leC] using h
    have k' : leC y z := by simpa [leC] using k
    simpa [leC] using leC_trans h' k') (fun x y => by
    rcases leC_total x y with h | h
    · simp only [leC] at h; simp [h]
    · simp only [leC] at h; simp [h]) l
  exact this.imp (fun h => by simpa [leC] using h)

abbrev nSortCr : FuncId := 45
def eSortCr : EffK := fun T sz n g rest => match rest with
  | [.clo f []] => if T = 55 ∧ sz = 3 ∧ f = nCompare then some (isCr n g ∧ n ≤ 100000, rowOf (sortCr (crL n g)), false) else none
  | _ => none

theorem isAgg_crease (w : World) : (isAgg 55).run Go.Proofs.Tryd.prog w = .ok true w := Go.Proofs.Tryd.isAgg55 w
theorem sizeOf_crease (w : World) : (Go.sizeOf 55).run Go.Proofs.Tryd.prog w = .ok 3 w := Go.Proofs.Tryd.sizeOf55 w

set_option maxHeartbeats 1000000 in
theorem xSortCr : ES nSortCr eSortCr := by
  refine ⟨⟨_, Go.Proofs.Tryd.func45, by kernel_rfl, by kernel_rfl⟩, ?_⟩
  intro A w v T sz n g c rest vals pre g' r hA hv hglo hB hD he hp
  unfold eSortCr at he
  split at he
  rotate_left
  · cases he
  rename_i f
  split at he
  rotate_left
  · cases he
  rename_i hc
  obtain ⟨rfl, rfl, rfl⟩ := hc
  cases he
  obtain ⟨hcr, hn⟩ := hp
  obtain ⟨fv, rfl⟩ : ∃ fv, vals = [fv] := by
    have := hD.1
    match vals, this with
    | [fv], _ => exact ⟨fv, rfl⟩
  have hf := hD.2 0 _ fv rfl rfl
  cases hf with
  | clo cvs hcl hcd =>
  obtain rfl : cvs = [] := List.length_eq_zero_iff.1 hcl
  obtain ⟨a, m, rfl, hnm, hmx, hcap, hl, hrest⟩ := hB
  rcases Nat.eq_zero_or_pos n with h0 | h0
  · subst h0
    have hcon := AnyF.slices_SortFunc_none { Go.Proofs.Tryd.sortCrease with } a m (.func (.func nCompare) #[] #[]) w
    change Calls Go.Proofs.Tryd.prog nSortCr _ _ _ at hcon
    refine hcon.mono ?_
    rintro e w' ⟨rfl, rfl⟩
    refine ⟨_, rfl, fun h => (by cases h), fun _ => rfl, ⟨a, m, rfl, hnm, hmx, hcap, fun i hi => absurd hi (by omega), ?_⟩, Fr.refl _ _ _⟩
    rcases hrest with h | ⟨b, o, vs, rfl, hh, ho, h1, hd⟩
    · exact .inl h
    · exact .inr ⟨b, o, vs, rfl, hh, ho, h1, fun i j s v hi => absurd hi (by omega)⟩
  · rcases hrest with ⟨rfl, h⟩ | ⟨b, o, vs, rfl, hh, ho, h1, hd⟩
    · omega
    have hb : b < w.heap.size := (Array.getElem?_eq_some_iff.1 hh).1
    have hin : ∀ i j, i < n → j < 3 → o + i * 3 + j < vs.length := fun i j hi hj => by omega
    have hlen : (crL n g).length = n := crL_length n g
    have hcell : ∀ i j, i < n → j < 3 → vs[o + i * 3 + j]? = some ((encCr (crL n g).toArray[i]!)[j]!) := by
      intro i j hi hj
      have hlt := hin i j hi hj
      have e1 : (crL n g).toArray[i]! = crOf (g i) := by
        rw [getElem!_pos _ i (by simpa [hlen] using hi)]
        simp [crL]
      rw [e1, List.getElem?_eq_getElem hlt]
      have hs := hcr i hi
      have : ∀ s, (crSV (crOf (g i)))[j]? = some s → D w (held A (Solo (.slice (some ⟨b, o, none⟩) n m))) (Solo (.slice (some ⟨b, o, none⟩) n m)) s vs[o + i * 3 + j] := by
        intro s hsj
        rw [← hs] at hsj
        exact hd i j s _ hi hsj (List.getElem?_eq_getElem hlt)
      have : j = 0 ∨ j = 1 ∨ j = 2 := by omega
      rename_i this'
      rcases this with rfl | rfl | rfl
      · have := this' _ rfl
        generalize vs[o + i * 3 + 0] = u at this
        cases this; rfl
      · have := this' _ rfl
        generalize vs[o + i * 3 + 1] = u at this
        cases this; rfl
      · have := this' _ rfl
        generalize vs[o + i * 3 + 2] = u at this
        cases this; rfl
    have hk : ∀ x, (encCr x).length = 3 := fun _ => rfl
    have h1c : ∀ x, ∀ v ∈ encCr x, v.oneCell' = true := fun x v hv => by simp [encCr] at hv; rcases hv with rfl | rfl | rfl <;> rfl
    have hH : HoldsK encCr 3 w b o (crL n g).toArray := by
      intro t ht
      have ht' : t < n * 3 := by simpa [hlen] using ht
      have q := flat_at (enc := encCr) (k := 3) (d := (crL n g).toArray) (i := t / 3) (j := t % 3) (by simp [hlen]; omega) (by omega)
      rw [show t / 3 * 3 + t % 3 = t by omega] at q
      have hc := hcell (t / 3) (t % 3) (by omega) (by omega)
      rw [show o + t / 3 * 3 + t % 3 = o + t by omega] at hc
      rw [q.2]
      refine ⟨?_, ?_⟩
      · simp only [World.cell?, hh, Option.isSome_none, Bool.false_eq_true, if_false, List.getElem?_toArray]
        exact hc
      · simp [World.frozen?, hh]
    have hcmp : CmpLays Go.Proofs.Tryd.prog nCompare #[] encCr 3 cmpC b o (crL n g).toArray.size w := by
      intro q os dk hdk x y
      have hsz : w.heap.size ≤ (sortWorldK encCr 3 w b o q dk os).heap.size := size_sort
      have kp : Keeps w (sortWorldK encCr 3 w b o q dk os) (held A (Solo (.slice (some ⟨b, o, none⟩) n m))) (held A (Solo (.slice (some ⟨b, o, none⟩) n m))) Nobody Nobody :=
        ⟨hsz, fun i hi hne => heap_sort_other hi (fun e => hne (.inr ⟨0, _, rfl, e ▸ rfl⟩)), fun _ _ h => h, fun _ _ h => h⟩
      have := pCompare.2 (held A (Solo (.slice (some ⟨b, o, none⟩) n m))) (sortWorldK encCr 3 w b o q dk os) [.agg [.int .i64 x.c, .int .u8 x.e, .int .u8 x.k], .agg [.int .i64 y.c, .int .u8 y.e, .int .u8 y.k]]
        [.agg (encCr x).toArray, .agg (encCr y).toArray] True _
        (fun i hi => by
          rcases hi with hi | ⟨j, z, hj, hz⟩
          · exact Nat.lt_of_lt_of_le (hA i hi) hsz
          · unfold Solo at hj
            split at hj
            · cases hj; exact Nat.lt_of_lt_of_le (hv i hz).1 hsz
            · cases hj)
        (fun g t hg => ⟨(hglo g t hg).1, (hglo g t hg).2.keep kp⟩)
        ⟨rfl, fun i s v hs hv => by
          match i, hs, hv with
          | 0, hs, hv =>
            simp at hs hv; subst hs hv
            refine .agg _ rfl (fun j s v hs hv => ?_)
            match j, hs, hv with
            | 0, hs, hv => simp [encCr] at hs hv; subst hs hv; exact .int
            | 1, hs, hv => simp [encCr] at hs hv; subst hs hv; exact .int
            | 2, hs, hv => simp [encCr] at hs hv; subst hs hv; exact .int
          | 1, hs, hv =>
            simp at hs hv; subst hs hv
            refine .agg _ rfl (fun j s v hs hv => ?_)
            match j, hs, hv with
            | 0, hs, hv => simp [encCr] at hs hv; subst hs hv; exact .int
            | 1, hs, hv => simp [encCr] at hs hv; subst hs hv; exact .int
            | 2, hs, hv => simp [encCr] at hs hv; subst hs hv; exact .int⟩
        rfl trivial
      refine this.mono ?_
      rintro e w' ⟨v, rfl, hvd, hfr⟩
      cases hvd
      exact ⟨rfl, grow_of_fr hfr (fun _ h => h)⟩
    have eg : ∀ args w, (callFunc nCompare args).run Go.Proofs.Tryd.prog w = .ok (.enter nCompare args) w := enters_of Go.Proofs.Tryd.func32 (by kernel_rfl) rfl
    have hcon := AnyQ.slices_SortFunc_total Go.Proofs.Tryd.sortCrease 3 isAgg_crease sizeOf_crease encCr hk h1c cmpC swoCr nCompare #[] b o m (crL n g).toArray w eg hcmp hH hb (by simp [hlen]; omega)
      (fun x y h1 h2 => by
        rw [ltOf_cmpC] at h1 h2
        simp only [ltC, decide_eq_false_iff_not] at h1 h2
        cases x; cases y
        simp only [Cr.mk.injEq] at *
        omega)
    change Calls Go.Proofs.Tryd.prog nSortCr _ _ _ at hcon
    have hs : (crL n g).toArray.size = n := by simp [hlen]
    rw [hs] at hcon
    refine hcon.mono ?_
    rintro e w' ⟨rfl, q, os, rfl⟩
    have hms : ((crL n g).toArray.toList.mergeSort fun x y => !(ltOf cmpC) y x) = sortCr (crL n g) := by
      rw [← merge_sortCr]
      congr 1
      funext x y
      rw [ltOf_cmpC]
    rw [hms]
    have hsl : (sortCr (crL n g)).length = n := by rw [sortCr_length, hlen]
    refine ⟨_, rfl, fun h => (by cases h), fun _ => rfl, ⟨_, m, rfl, hnm, hmx, hcap, fun i hi => ⟨rfl, rfl⟩, .inr ⟨b, o, (putCells id o (flatK encCr 3 (sortCr (crL n g)).toArray) vs.toArray).toList, rfl, ?_, ?_, ?_, ?_⟩⟩, fr_sort rfl⟩
    · rw [heap_sort_same hh]
    · rw [Array.length_toList, size_putCells]; simpa using ho
    · intro v hv
      refine mem_putCells (fun t ht => flat_one hk h1c ht) (fun v hv => h1 v (by simpa using hv)) (Array.mem_toList_iff.1 hv)
    · intro i j s v hi hs hv
      have hj : j < 3 := (List.getElem?_eq_some_iff.1 hs).1
      have q := flat_at (enc := encCr) (k := 3) (d := (sortCr (crL n g)).toArray) (i := i) (j := j) (by simp [hsl]; exact hi) hj
      rw [Array.getElem?_toList, Nat.add_assoc, getD_putCells q.1 (by simp; have := hin i j hi hj; omega), q.2] at hv
      cases hv
      have e1 : (sortCr (crL n g)).toArray[i]! = (sortCr (crL n g)).getD i d0 := by
        rw [getElem!_pos _ i (by simp [hsl]; exact hi)]
        simp [List.getD_eq_getElem?_getD, hsl, hi]
      rw [e1]
      unfold rowOf at hs
      match j, hs with
      | 0, hs => simp [crSV] at hs; subst hs; exact .int
      | 1, hs => simp [crSV] at hs; subst hs; exact .int
      | 2, hs => simp [crSV] at hs; subst hs; exact .int

end Go.Proofs.YthfkpmobmnfgcaaDoor.V

/-
  Contracts: the eight turns. Conditions: none.
-/
namespace Go.Proofs.YthfkpmobmnfgcaaDoor.V
open Go

abbrev nTu0 : FuncId := 95
def kTu0 : Kon
  | [.agg [.int .i64 x, .int .i64 y]] => some (-100000 ≤ x ∧ x ≤ 100000 ∧ -100000 ≤ y ∧ y ≤ 100000, .agg [.int .i64 (x), .int .i64 (y)])
  | _ => none
def FTu0 : Fam := ⟨Int × Int, fun (x, y) => [.agg [.int .i64 x, .int .i64 y]], fun (x, y) => -100000 ≤ x ∧ x ≤ 100000 ∧ -100000 ≤ y ∧ y ≤ 100000, fun (x, y) => .agg [.int .i64 (x), .int .i64 (y)]⟩
set_option maxHeartbeats 4000000 in
set_option maxRecDepth 100000 in
theorem pTu0 : PS nTu0 kTu0 := by
  refine con [] (by simp) FTu0 (fun _ _ => none) kTu0 ?_ ?_ Go.Proofs.Tryd.func95 (by kernel_rfl) (by kernel_rfl) (by kernel_rfl) ?_
  · intro args pre s h hp
    unfold kTu0 at h
    split at h
    · rename_i x y; cases h; exact ⟨(x, y), by simp [FTu0, le2L, SV.le2, SV.le1, le0L, SV.le0], hp, rfl⟩
    · cases h
  · intro i; show 1 ≤ _; decide
  · rintro ⟨x, y⟩ hp
    replace hp : -100000 ≤ x ∧ x ≤ 100000 ∧ -100000 ≤ y ∧ y ≤ 100000 := hp
    repeat (any_goals (first
      | (with_reducible refine And.intro (Ask.mk ?_) ?_
         first | exact trivial | exact fun _ => trivial)
      | with_reducible refine And.intro ?_ ?_
      | with_reducible refine Br.mk (fun h => ?_) (fun h => ?_)
      | with_reducible exact True.intro
      | (with_reducible refine Late.mk ?_
         exact rfl)
      | (fail_if_success with_reducible apply stopA
         fail_if_success with_reducible apply stopE
         fail_if_success with_reducible apply stopF
         fail_if_success with_reducible apply Exists.intro
         fail_if_success with_reducible intro _
         fail_if_success with_reducible apply stopK
         fail_if_success with_reducible apply stopL
         conv => whnf)))
    all_goals (try with_reducible refine Ask.mk ?_)
    all_goals (try first | exact trivial | exact fun _ => trivial)
    all_goals (try dsimp only)
    all_goals (try (simp only [inK]; omega))

abbrev nTu1 : FuncId := 96
def kTu1 : Kon
  | [.agg [.int .i64 x, .int .i64 y]] => some (-100000 ≤ x ∧ x ≤ 100000 ∧ -100000 ≤ y ∧ y ≤ 100000, .agg [.int .i64 (-y), .int .i64 (x)])
  | _ => none
def FTu1 : Fam := ⟨Int × Int, fun (x, y) => [.agg [.int .i64 x, .int .i64 y]], fun (x, y) => -100000 ≤ x ∧ x ≤ 100000 ∧ -100000 ≤ y ∧ y ≤ 100000, fun (x, y) => .agg [.int .i64 (-y), .int .i64 (x)]⟩
set_option maxHeartbeats 4000000 in
set_option maxRecDepth 100000 in
theorem pTu1 : PS nTu1 kTu1 := by
  refine con [] (by simp) FTu1 (fun _ _ => none) kTu1 ?_ ?_ Go.Proofs.Tryd.func96 (by kernel_rfl) (by kernel_rfl) (by kernel_rfl) ?_
  · intro args pre s h hp
    unfold kTu1 at h
    split at h
    · rename_i x y; cases h; exact ⟨(x, y), by simp [FTu1, le2L, SV.le2, SV.le1, le0L, SV.le0], hp, rfl⟩
    · cases h
  · intro i; show 1 ≤ _; decide
  · rintro ⟨x, y⟩ hp
    replace hp : -100000 ≤ x ∧ x ≤ 100000 ∧ -100000 ≤ y ∧ y ≤ 100000 := hp
    repeat (any_goals (first
      | (with_reducible refine And.intro (Ask.mk ?_) ?_
         first | exact trivial | exact fun _ => trivial)
      | with_reducible refine And.intro ?_ ?_
      | with_reducible refine Br.mk (fun h => ?_) (fun h => ?_)
      | with_reducible exact True.intro
      | (with_reducible refine Late.mk ?_
         exact rfl)
      | (fail_if_success with_reducible apply stopA
         fail_if_success with_reducible apply stopE
         fail_if_success with_reducible apply stopF
         fail_if_success with_reducible apply Exists.intro
         fail_if_success with_reducible intro _
         fail_if_success with_reducible apply stopK
         fail_if_success with_reducible apply stopL
         conv => whnf)))
    all_goals (try with_reducible refine Ask.mk ?_)
    all_goals (try first | exact trivial | exact fun _ => trivial)
    all_goals (try dsimp only)
    all_goals (try (simp only [inK]; omega))

abbrev nTu2 : FuncId := 97
def kTu2 : Kon
  | [.agg [.int .i64 x, .int .i64 y]] => some (-100000 ≤ x ∧ x ≤ 100000 ∧ -100000 ≤ y ∧ y ≤ 100000, .agg [.int .i64 (-x), .int .i64 (-y)])
  | _ => none
def FTu2 : Fam := ⟨Int × Int, fun (x, y) => [.agg [.int .i64 x, .int .i64 y]], fun (x, y) => -100000 ≤ x ∧ x ≤ 100000 ∧ -100000 ≤ y ∧ y ≤ 100000, fun (x, y) => .agg [.int .i64 (-x), .int .i64 (-y)]⟩
set_option maxHeartbeats 4000000 in
set_option maxRecDepth 100000 in
theorem pTu2 : PS nTu2 kTu2 := by
  refine con [] (by simp) FTu2 (fun _ _ => none) kTu2 ?_ ?_ Go.Proofs.Tryd.func97 (by kernel_rfl) (by kernel_rfl) (by kernel_rfl) ?_
  · intro args pre s h hp
    unfold kTu2 at h
    split at h
    · rename_i x y; cases h; exact ⟨(x, y), by simp [FTu2, le2L, SV.le2, SV.le1, le0L, SV.le0], hp, rfl⟩
    · cases h
  · intro i; show 1 ≤ _; decide
  · rintro ⟨x, y⟩ hp
    replace hp : -100000 ≤ x ∧ x ≤ 100000 ∧ -100000 ≤ y ∧ y ≤ 100000 := hp
    repeat (any_goals (first
      | (with_reducible refine And.intro (Ask.mk ?_) ?_
         first | exact trivial | exact fun _ => trivial)
      | with_reducible refine And.intro ?_ ?_
      | with_reducible refine Br.mk (fun h => ?_) (fun h => ?_)
      | with_reducible exact True.intro
      | (with_reducible refine Late.mk ?_
         exact rfl)
      | (fail_if_success with_reducible apply stopA
         fail_if_success with_reducible apply stopE
         fail_if_success with_reducible apply stopF
         fail_if_success with_reducible apply Exists.intro
         fail_if_success with_reducible intro _
         fail_if_success with_reducible apply stopK
         fail_if_success with_reducible apply stopL
         conv => whnf)))
    all_goals (try with_reducible refine Ask.mk ?_)
    all_goals (try first | exact trivial | exact fun _ => trivial)
    all_goals (try dsimp only)
    all_goals (try (simp only [inK]; omega))

abbrev nTu3 : FuncId := 98
def kTu3 : Kon
  | [.agg [.int .i64 x, .int .i64 y]] => some (-100000 ≤ x ∧ x ≤ 100000 ∧ -100000 ≤ y ∧ y ≤ 100000, .agg [.int .i64 (y), .int .i64 (-x)])
  | _ => none
def FTu3 : Fam := ⟨Int × Int, fun (x, y) => [.agg [.int .i64 x, .int .i64 y]], fun (x, y) => -100000 ≤ x ∧ x ≤ 100000 ∧ -100000 ≤ y ∧ y ≤ 100000, fun (x, y) => .agg [.int .i64 (y), .int .i64 (-x)]⟩
set_option maxHeartbeats 4000000 in
set_option maxRecDepth 100000 in
theorem pTu3 : PS nTu3 kTu3 := by
  refine con [] (by simp) FTu3 (fun _ _ => none) kTu3 ?_ ?_ Go.Proofs.Tryd.func98 (by kernel_rfl) (by kernel_rfl) (by kernel_rfl) ?_
  · intro args pre s h hp
    unfold kTu3 at h
    split at h
    · rename_i x y; cases h; exact ⟨(x, y), by simp [FTu3, le2L, SV.le2, SV.le1, le0L, SV.le0], hp, rfl⟩
    · cases h
  · intro i; show 1 ≤ _; decide
  · rintro ⟨x, y⟩ hp
    replace hp : -100000 ≤ x ∧ x ≤ 100000 ∧ -100000 ≤ y ∧ y ≤ 100000 := hp
    repeat (any_goals (first
      | (with_reducible refine And.intro (Ask.mk ?_) ?_
         first | exact trivial | exact fun _ => trivial)
      | with_reducible refine And.intro ?_ ?_
      | with_reducible refine Br.mk (fun h => ?_) (fun h => ?_)
      | with_reducible exact True.intro
      | (with_reducible refine Late.mk ?_
         exact rfl)
      | (fail_if_success with_reducible apply stopA
         fail_if_success with_reducible apply stopE
         fail_if_success with_reducible apply stopF
         fail_if_success with_reducible apply Exists.intro
         fail_if_success with_reducible intro _
         fail_if_success with_reducible apply stopK
         fail_if_success with_reducible apply stopL
         conv => whnf)))
    all_goals (try with_reducible refine Ask.mk ?_)
    all_goals (try first | exact trivial | exact fun _ => trivial)
    all_goals (try dsimp only)
    all_goals (try (simp only [inK]; omega))

abbrev nTu4 : FuncId := 99
def kTu4 : Kon
  | [.agg [.int .i64 x, .int .i64 y]] => some (-100000 ≤ x ∧ x ≤ 100000 ∧ -100000 ≤ y ∧ y ≤ 100000, .agg [.int .i64 (-x), .int .i64 (y)])
  | _ => none
def FTu4 : Fam := ⟨Int × Int, fun (x, y) => [.agg [.int .i64 x, .int .i64 y]], fun (x, y) => -100000 ≤ x ∧ x ≤ 100000 ∧ -100000 ≤ y ∧ y ≤ 100000, fun (x, y) => .agg [.int .i64 (-x), .int .i64 (y)]⟩
set_option maxHeartbeats 4000000 in
set_option maxRecDepth 100000 in
theorem pTu4 : PS nTu4 kTu4 := by
  refine con [] (by simp) FTu4 (fun _ _ => none) kTu4 ?_ ?_ Go.Proofs.Tryd.func99 (by kernel_rfl) (by kernel_rfl) (by kernel_rfl) ?_
  · intro args pre s h hp
    unfold kTu4 at h
    split at h
    · rename_i x y; cases h; exact ⟨(x, y), by simp [FTu4, le2L, SV.le2, SV.le1, le0L, SV.le0], hp, rfl⟩
    · cases h
  · intro i; show 1 ≤ _; decide
  · rintro ⟨x, y⟩ hp
    replace hp : -100000 ≤ x ∧ x ≤ 100000 ∧ -100000 ≤ y ∧ y ≤ 100000 := hp
    repeat (any_goals (first
      | (with_reducible refine And.intro (Ask.mk ?_) ?_
         first | exact trivial | exact fun _ => trivial)
      | with_reducible refine And.intro ?_ ?_
      | with_reducible refine Br.mk (fun h => ?_) (fun h => ?_)
      | with_reducible exact True.intro
      | (with_reducible refine Late.mk ?_
         exact rfl)
      | (fail_if_success with_reducible apply stopA
         fail_if_success with_reducible apply stopE
         fail_if_success with_reducible apply stopF
         fail_if_success with_reducible apply Exists.intro
         fail_if_success with_reducible intro _
         fail_if_success with_reducible apply stopK
         fail_if_success with_reducible apply stopL
         conv => whnf)))
    all_goals (try with_reducible refine Ask.mk ?_)
    all_goals (try first | exact trivial | exact fun _ => trivial)
    all_goals (try dsimp only)
    all_goals (try (simp only [inK]; omega))

abbrev nTu5 : FuncId := 100
def kTu5 : Kon
  | [.agg [.int .i64 x, .int .i64 y]] => some (-100000 ≤ x ∧ x ≤ 100000 ∧ -100000 ≤ y ∧ y ≤ 100000, .agg [.int .i64 (-y), .int .i64 (-x)])
  | _ => none
def FTu5 : Fam := ⟨Int × Int, fun (x, y) => [.agg [.int .i64 x, .int .i64 y]], fun (x, y) => -100000 ≤ x ∧ x ≤ 100000 ∧ -100000 ≤ y ∧ y ≤ 100000, fun (x, y) => .agg [.int .i64 (-y), .int .i64 (-x)]⟩
set_option maxHeartbeats 4000000 in
set_option maxRecDepth 100000 in
theorem pTu5 : PS nTu5 kTu5 := by
  refine con [] (by simp) FTu5 (fun _ _ => none) kTu5 ?_ ?_ Go.Proofs.Tryd.func100 (by kernel_rfl) (by kernel_rfl) (by kernel_rfl) ?_
  · intro args pre s h hp
    unfold kTu5 at h
    split at h
    · rename_i x y; cases h; exact ⟨(x, y), by simp [FTu5, le2L, SV.le2, SV.le1, le0L, SV.le0], hp, rfl⟩
    · cases h
  · intro i; show 1 ≤ _; decide
  · rintro ⟨x, y⟩ hp
    replace hp : -100000 ≤ x ∧ x ≤ 100000 ∧ -100000 ≤ y ∧ y ≤ 100000 := hp
    repeat (any_goals (first
      | (with_reducible refine And.intro (Ask.mk ?_) ?_
         first | exact trivial | exact fun _ => trivial)
      | with_reducible refine And.intro ?_ ?_
      | with_reducible refine Br.mk (fun h => ?_) (fun h => ?_)
      | with_reducible exact True.intro
      | (with_reducible refine Late.mk ?_
         exact rfl)
      | (fail_if_success with_reducible apply stopA
         fail_if_success with_reducible apply stopE
         fail_if_success with_reducible apply stopF
         fail_if_success with_reducible apply Exists.intro
         fail_if_success with_reducible intro _
         fail_if_success with_reducible apply stopK
         fail_if_success with_reducible apply stopL
         conv => whnf)))
    all_goals (try with_reducible refine Ask.mk ?_)
    all_goals (try first | exact trivial | exact fun _ => trivial)
    all_goals (try dsimp only)
    all_goals (try (simp only [inK]; omega))

abbrev nTu6 : FuncId := 101
def kTu6 : Kon
  | [.agg [.int .i64 x, .int .i64 y]] => some (-100000 ≤ x ∧ x ≤ 100000 ∧ -100000 ≤ y ∧ y ≤ 100000, .agg [.int .i64 (x), .int .i64 (-y)])
  | _ => none
def FTu6 : Fam := ⟨Int × Int, fun (x, y) => [.agg [.int .i64 x, .int .i64 y]], fun (x, y) => -100000 ≤ x ∧ x ≤ 100000 ∧ -100000 ≤ y ∧ y ≤ 100000, fun (x, y) => .agg [.int .i64 (x), .int .i64 (-y)]⟩
set_option maxHeartbeats 4000000 in
set_option maxRecDepth 100000 in
theorem pTu6 : PS nTu6 kTu6 := by
  refine con [] (by simp) FTu6 (fun _ _ => none) kTu6 ?_ ?_ Go.Proofs.Tryd.func101 (by kernel_rfl) (by kernel_rfl) (by kernel_rfl) ?_
  · intro args pre s h hp
    unfold kTu6 at h
    split at h
    · rename_i x y; cases h; exact ⟨(x, y), by simp [FTu6, le2L, SV.le2, SV.le1, le0L, SV.le0], hp, rfl⟩
    · cases h
  · intro i; show 1 ≤ _; decide
  · rintro ⟨x, y⟩ hp
    replace hp : -100000 ≤ x ∧ x ≤ 100000 ∧ -100000 ≤ y ∧ y ≤ 100000 := hp
    repeat (any_goals (first
      | (with_reducible refine And.intro (Ask.mk ?_) ?_
         first | exact trivial | exact fun _ => trivial)
      | with_reducible refine And.intro ?_ ?_
      | with_reducible refine Br.mk (fun h => ?_) (fun h => ?_)
      | with_reducible exact True.intro
      | (with_reducible refine Late.mk ?_
         exact rfl)
      | (fail_if_success with_reducible apply stopA
         fail_if_success with_reducible apply stopE
         fail_if_success with_reducible apply stopF
         fail_if_success with_reducible apply Exists.intro
         fail_if_success with_reducible intro _
         fail_if_success with_reducible apply stopK
         fail_if_success with_reducible apply stopL
         conv => whnf)))
    all_goals (try with_reducible refine Ask.mk ?_)
    all_goals (try first | exact trivial | exact fun _ => trivial)
    all_goals (try dsimp only)
    all_goals (try (simp only [inK]; omega))

abbrev nTu7 : FuncId := 102
def kTu7 : Kon
  | [.agg [.int .i64 x, .int .i64 y]] => some (-100000 ≤ x ∧ x ≤ 100000 ∧ -100000 ≤ y ∧ y ≤ 100000, .agg [.int .i64 (y), .int .i64 (x)])
  | _ => none
def FTu7 : Fam := ⟨Int × Int, fun (x, y) => [.agg [.int .i64 x, .int .i64 y]], fun (x, y) => -100000 ≤ x ∧ x ≤ 100000 ∧ -100000 ≤ y ∧ y ≤ 100000, fun (x, y) => .agg [.int .i64 (y), .int .i64 (x)]⟩
set_option maxHeartbeats 4000000 in
set_option maxRecDepth 100000 in
theorem pTu7 : PS nTu7 kTu7 := by
  refine con [] (by simp) FTu7 (fun _ _ => none) kTu7 ?_ ?_ Go.Proofs.Tryd.func102 (by kernel_rfl) (by kernel_rfl) (by kernel_rfl) ?_
  · intro args pre s h hp
    unfold kTu7 at h
    split at h
    · rename_i x y; cases h; exact ⟨(x, y), by simp [FTu7, le2L, SV.le2, SV.le1, le0L, SV.le0], hp, rfl⟩
    · cases h
  · intro i; show 1 ≤ _; decide
  · rintro ⟨x, y⟩ hp
    replace hp : -100000 ≤ x ∧ x ≤ 100000 ∧ -100000 ≤ y ∧ y ≤ 100000 := hp
    repeat (any_goals (first
      | (with_reducible refine And.intro (Ask.mk ?_) ?_
         first | exact trivial | exact fun _ => trivial)
      | with_reducible refine And.intro ?_ ?_
      | with_reducible refine Br.mk (fun h => ?_) (fun h => ?_)
      | with_reducible exact True.intro
      | (with_reducible refine Late.mk ?_
         exact rfl)
      | (fail_if_success with_reducible apply stopA
         fail_if_success with_reducible apply stopE
         fail_if_success with_reducible apply stopF
         fail_if_success with_reducible apply Exists.intro
         fail_if_success with_reducible intro _
         fail_if_success with_reducible apply stopK
         fail_if_success with_reducible apply stopL
         conv => whnf)))
    all_goals (try with_reducible refine Ask.mk ?_)
    all_goals (try first | exact trivial | exact fun _ => trivial)
    all_goals (try dsimp only)
    all_goals (try (simp only [inK]; omega))

end Go.Proofs.YthfkpmobmnfgcaaDoor.V

/-
  Contracts: the search for a step among the inner ones. Conditions: none.
-/
namespace Go.Proofs.YthfkpmobmnfgcaaDoor.V
open Go

def isIn (x y : Int) (i : Nat) : Bool := decide (x = tb [0, 1, 0, -1] i) && (decide (y = tb [-1, 0, 1, 0] i) && true)
def inIdx (x y : Int) : Int := if isIn x y 0 then 0 else if isIn x y 1 then 1 else if isIn x y 2 then 2 else if isIn x y 3 then 3 else -1
abbrev nIndex : FuncId := 54
def kIndex : Kon
  | [.sl 2 4 f _, .agg [.int .i64 x, .int .i64 y]] => some (∀ i, i < 4 → f i = innerRow i, .int .i64 (inIdx x y))
  | _ => none
def FIndex : Fam := ⟨Int × Int, fun (x, y) => [.sl 2 4 innerRow none, .agg [.int .i64 x, .int .i64 y]], fun _ => True, fun (x, y) => .int .i64 (inIdx x y)⟩
def IIndex (x y : Int) : Nat → Option Inv
  | 2 => some { β := Nat, ok := fun i => i ≤ 4 ∧ ∀ j, j < i → isIn x y j = false, st := fun i => ⟨[⟨8, none, .int .i64 i⟩, ⟨7, none, .int .i64 4⟩, ⟨0, none, .sl 2 4 innerRow none⟩, ⟨3, none, .own 0 0⟩], [.cells 98 [.int .i64 x, .int .i64 y]]⟩, μ := fun i => 4 - i }
  | _ => none
set_option maxRecDepth 100000 in
theorem pIndex : PS nIndex kIndex := by
  refine con [] (by simp) FIndex (fun (x, y) => IIndex x y) kIndex ?_ ?_ Go.Proofs.Tryd.func54 (by kernel_rfl) (by kernel_rfl) (by kernel_rfl) ?_
  · intro args pre s h hp
    unfold kIndex at h
    split at h
    · rename_i f c x y
      cases h
      refine ⟨(x, y), ?_, trivial, rfl⟩
      refine ⟨le2_sl ?_, ?_, trivial⟩
      · simp only [SV.le0, capLe, if_true, true_and]; exact hp
      · simp [SV.le2, SV.le1, le0L, SV.le0]
    · cases h
  · intro i; show 2 ≤ _; decide
  · rintro ⟨x, y⟩ -
    repeat (any_goals (first
      | (with_reducible refine And.intro (Ask.mk ?_) ?_
         first | exact trivial | exact fun _ => trivial)
      | with_reducible refine And.intro ?_ ?_
      | with_reducible refine Br.mk (fun h => ?_) (fun h => ?_)
      | with_reducible exact True.intro
      | (with_reducible refine Late.mk ?_
         exact rfl)
      | (fail_if_success with_reducible apply stopA
         fail_if_success with_reducible apply stopE
         fail_if_success with_reducible apply stopF
         fail_if_success with_reducible apply Exists.intro
         fail_if_success with_reducible intro _
         fail_if_success with_reducible apply stopK
         fail_if_success with_reducible apply stopL
         conv => whnf)))
    all_goals (try with_reducible refine Ask.mk ?_)
    all_goals (try first | exact trivial | exact fun _ => trivial)
    all_goals (try dsimp only)
    refine ⟨(0 : Nat), ⟨by omega, fun j hj => by omega⟩, ?_, ?_⟩
    · repeat (any_goals (first
        | (with_reducible refine And.intro (Ask.mk ?_) ?_
           first | exact trivial | exact fun _ => trivial)
        | with_reducible refine And.intro ?_ ?_
        | with_reducible refine Br.mk (fun h => ?_) (fun h => ?_)
        | with_reducible exact True.intro
        | (with_reducible refine Late.mk ?_
           exact rfl)
        | (fail_if_success with_reducible apply stopA
           fail_if_success with_reducible apply stopE
           fail_if_success with_reducible apply stopF
           fail_if_success with_reducible apply Exists.intro
           fail_if_success with_reducible intro _
           fail_if_success with_reducible apply stopK
           fail_if_success with_reducible apply stopL
           conv => whnf)))
      all_goals (try with_reducible refine Ask.mk ?_)
      all_goals (try first | exact trivial | exact fun _ => trivial)
      all_goals (try dsimp only)
      all_goals first | rfl | exact fun _ _ => rfl | skip
    · rintro i ⟨hi1, hi2⟩
      repeat (any_goals (first
        | (with_reducible refine And.intro (Ask.mk ?_) ?_
           first | exact trivial | exact fun _ => trivial)
        | with_reducible refine And.intro ?_ ?_
        | with_reducible refine Br.mk (fun h => ?_) (fun h => ?_)
        | with_reducible exact True.intro
        | (with_reducible refine Late.mk ?_
           exact rfl)
        | (fail_if_success with_reducible apply stopA
           fail_if_success with_reducible apply stopE
           fail_if_success with_reducible apply stopF
           fail_if_success with_reducible apply Exists.intro
           fail_if_success with_reducible intro _
           fail_if_success with_reducible apply stopK
           fail_if_success with_reducible apply stopL
           conv => whnf)))
      all_goals (try with_reducible refine Ask.mk ?_)
      all_goals (try first | exact trivial | exact fun _ => trivial)
      all_goals (try dsimp only)
      · simp at h; omega
      · rename_i h0; simp at h0
        replace h : isIn x y i = true := h
        have : i = 0 ∨ i = 1 ∨ i = 2 ∨ i = 3 := by omega
        rcases this with rfl | rfl | rfl | rfl
        · simp [inIdx, h]
        · simp [inIdx, h, hi2 0 (by omega)]
        · simp [inIdx, h, hi2 0 (by omega), hi2 1 (by omega)]
        · simp [inIdx, h, hi2 0 (by omega), hi2 1 (by omega), hi2 2 (by omega)]
      · simp only [inK]; omega
      · rename_i h0; simp at h0
        refine ⟨i + 1, ⟨by omega, fun j hj => ?_⟩, by omega, ?_⟩
        · by_cases e : j = i
          · subst e; exact h
          · exact hi2 j (by omega)
        · repeat (any_goals (first
            | (with_reducible refine And.intro (Ask.mk ?_) ?_
               first | exact trivial | exact fun _ => trivial)
            | with_reducible refine And.intro ?_ ?_
            | with_reducible refine Br.mk (fun h => ?_) (fun h => ?_)
            | with_reducible exact True.intro
            | (with_reducible refine Late.mk ?_
               exact rfl)
            | (fail_if_success with_reducible apply stopA
               fail_if_success with_reducible apply stopE
               fail_if_success with_reducible apply stopF
               fail_if_success with_reducible apply Exists.intro
               fail_if_success with_reducible intro _
               fail_if_success with_reducible apply stopK
               fail_if_success with_reducible apply stopL
               conv => whnf)))
          all_goals (try with_reducible refine Ask.mk ?_)
          all_goals (try first | exact trivial | exact fun _ => trivial)
          all_goals (try dsimp only)
          all_goals first | rfl | exact fun _ _ => rfl | omega
      · simp at h
        simp [inIdx, hi2 0 (by omega), hi2 1 (by omega), hi2 2 (by omega), hi2 3 (by omega)]

end Go.Proofs.YthfkpmobmnfgcaaDoor.V

/-
  Where a symmetry maps a cell: plain law. Conditions: none.
-/
namespace Go.Proofs.YthfkpmobmnfgcaaDoor.V
open Go

def imX (t W X Y : Int) : Int := if t = 0 then X else if t = 1 then W - 1 - Y else if t = 2 then W - 1 - X else if t = 3 then Y else if t = 4 then W - 1 - X else if t = 5 then W - 1 - Y else if t = 6 then X else Y
def imY (t H X Y : Int) : Int := if t = 0 then Y else if t = 1 then X else if t = 2 then H - 1 - Y else if t = 3 then H - 1 - X else if t = 4 then Y else if t = 5 then H - 1 - X else if t = 6 then H - 1 - Y else X
def imQ (t Q : Int) : Int := if t = 0 then Q else if t = 1 then (Q + 1) % 4 else if t = 2 then (Q + 2) % 4 else if t = 3 then (Q + 3) % 4 else if t = 4 then (4 - Q) % 4 else if t = 5 then (5 - Q) % 4 else if t = 6 then (6 - Q) % 4 else (7 - Q) % 4
def imF (W H t i : Int) : Int := idVal W H (imX t W (ceX W H i) (ceY W H i)) (imY t H (ceX W H i) (ceY W H i)) (imQ t (ceQ W H i))

def stx (Q : Int) : Int := tb [0, 1, 0, -1] Q.toNat
def sty (Q : Int) : Int := tb [-1, 0, 1, 0] Q.toNat
theorem st_cases {Q : Int} (h1 : 0 ≤ Q) (h2 : Q ≤ 3) : (Q = 0 ∧ stx Q = 0 ∧ sty Q = -1) ∨ (Q = 1 ∧ stx Q = 1 ∧ sty Q = 0) ∨ (Q = 2 ∧ stx Q = 0 ∧ sty Q = 1) ∨ (Q = 3 ∧ stx Q = -1 ∧ sty Q = 0) := by
  have : Q = 0 ∨ Q = 1 ∨ Q = 2 ∨ Q = 3 := by omega
  rcases this with rfl | rfl | rfl | rfl <;> simp [stx, sty, tb]
theorem inIdx_st {Q : Int} (h1 : 0 ≤ Q) (h2 : Q ≤ 3) : inIdx (stx Q) (sty Q) = Q := by
  have : Q = 0 ∨ Q = 1 ∨ Q = 2 ∨ Q = 3 := by omega
  rcases this with rfl | rfl | rfl | rfl <;> decide
theorem step_ok {X Y Q qx qy : Int} (h1 : 0 ≤ Q) (h2 : Q ≤ 3) (hX : 0 ≤ X) (hY : 0 ≤ Y) (hx : qx = 4 * X + 2 + stx Q) (hy : qy = 4 * Y + 2 + sty Q) :
    qx.tdiv 4 = X ∧ qy.tdiv 4 = Y ∧ qx - 4 * X - 2 = stx Q ∧ qy - 4 * Y - 2 = sty Q := by
  have c := st_cases h1 h2
  have e1 : qx.tdiv 4 = qx / 4 := Int.tdiv_eq_ediv_of_nonneg (by omega)
  have e2 : qy.tdiv 4 = qy / 4 := Int.tdiv_eq_ediv_of_nonneg (by omega)
  rw [e1, e2]
  omega
theorem ce_le {W H i : Int} (h : ceErr W H i = 0) : shErr W H = 0 ∧ 0 ≤ ceX W H i ∧ ceX W H i < W ∧ 0 ≤ ceY W H i ∧ ceY W H i < H ∧ 1 ≤ W ∧ W ≤ 256 ∧ 1 ≤ H ∧ H ≤ 256 := by
  have hs : shErr W H = 0 := by
    unfold ceErr at h
    split at h
    · assumption
    · cases h
  have hb : hasB W H i = true := by
    unfold ceErr at h
    rw [if_pos hs] at h
    split at h
    · assumption
    · cases h
  obtain ⟨a1, a2, a3, a4, a5, a6, a7⟩ := shErr_zero hs
  simp [hasB] at hb
  simp only [ceX, ceY, h, if_true]
  have b1 : 0 ≤ i / 4 % W := Int.emod_nonneg _ (by omega)
  have b2 : i / 4 % W < W := Int.emod_lt_of_pos _ (by omega)
  have b3 : 0 ≤ i / 4 / W := Int.ediv_nonneg (by omega) (by omega)
  have b4 : i / 4 / W < H := Int.ediv_lt_of_lt_mul (by omega) (by rw [Int.mul_comm H W]; omega)
  exact ⟨hs, b1, b2, b3, b4, a1, a3, a2, a4⟩

end Go.Proofs.YthfkpmobmnfgcaaDoor.V

/-
  forms.image: its contract as a statement. Conditions: none.
-/
namespace Go.Proofs.YthfkpmobmnfgcaaDoor.V
open Go

abbrev nImage : FuncId := 43
def kImage : Kon
  | [.agg [.int .i64 W, .int .i64 H], .int .i64 t, .int .i64 i] => some (ceErr W H i = 0 ∧ 0 ≤ t ∧ t ≤ 7 ∧ (t % 2 = 0 ∨ W = H), .int .i64 (imF W H t i))
  | _ => none
def FImage : Fam := ⟨Int × Int × Int × Int, fun (W, H, t, i) => [.agg [.int .i64 W, .int .i64 H], .int .i64 t, .int .i64 i], fun (W, H, t, i) => ceErr W H i = 0 ∧ 0 ≤ t ∧ t ≤ 7 ∧ (t % 2 = 0 ∨ W = H), fun (W, H, t, i) => .int .i64 (imF W H t i)⟩
def lImage : List (FuncId × Kon) := [(nSheetsCell, kSheetsCell), (nTu0, kTu0), (nTu1, kTu1), (nTu2, kTu2), (nTu3, kTu3), (nTu4, kTu4), (nTu5, kTu5), (nTu6, kTu6), (nTu7, kTu7), (nIndex, kIndex), (nId, kId)]
def VImage (t : Int) : Prop := ∀ W H i, ceErr W H i = 0 → (t % 2 = 0 ∨ W = H) → wpC (E0 lImage) Go.Proofs.Tryd.f43.ntmps (fun _ => none) (Go.Proofs.Tryd.f43.body.getD .skip) ⟨retP (E0 lImage) Go.Proofs.Tryd.f43 (.int .i64 (imF W H t i)), fun _ _ => False, retP (E0 lImage) Go.Proofs.Tryd.f43 (.int .i64 (imF W H t i))⟩ ⟨initE 0 [.agg [.int .i64 W, .int .i64 H], .int .i64 t, .int .i64 i], []⟩

end Go.Proofs.YthfkpmobmnfgcaaDoor.V

