/-
  Parts of the proof: V1 V2 V3 V4 V5 V6 V7 V8 V9 V10 M1 V11 V12 V13. Conditions: none.
-/
import Derived.WalkKit
import Derived.ChangeKeysEq
import Derived.MapKept
namespace Go.Proofs.YtmhhmaopnjfcgaaGreatDoor.V
open Go
inductive KT where
 | int1 (k : IntKind)
 | ints (ks : List IntKind)
 | str
 deriving DecidableEq
inductive SV where
 | int (k : IntKind) (n : Int)
 | bool (b : Bool)
 | con (v : Value)
 | own (k off : Nat)
 | osl (k : Nat)
 | oel (k sz i off : Nat)
 | sl (sz n : Nat) (f : Nat → List SV) (c : Option Nat)
 | rel (sz n : Nat) (f : Nat → List SV) (i off : Nat)
 | agg (cs : List SV)
 | tup (vs : List SV)
 | clo (fn : FuncId) (cs : List SV)
 | omp (k : Nat)
 | mp (K : KT) (ag : Bool) (has : List Int → Bool) (val : List Int → List SV)
 | fp (ok : Bool) (k i off : Nat)
 | ub (p q : Prop)
 | any
def SV.pure0 : SV → Bool
 | .own _ _ | .osl _ | .oel _ _ _ _ | .agg _ | .tup _ | .omp _ | .fp _ _ _ _ => false
 | .clo _ cs => cs.isEmpty
 | _ => true
def SV.pure : SV → Bool
 | .clo _ cs => cs.all SV.pure0
 | s => s.pure0
theorem pure_of0 {s : SV} (h : s.pure0 = true) : s.pure = true := by
 cases s <;> simp_all [SV.pure0, SV.pure]
def blkOf : Value → Option Nat
 | .pointer (some a) => some a.block
 | .slice (some a) _ (_ + 1) => some a.block
 | .map (some r) => some r
 | _ => none
theorem blkOf_pos {b o n m : Nat} {s : Option _} (h : 0 < m) : blkOf (.slice (some ⟨b, o, s⟩) n m) = some b := by
 cases m with
 | zero => omega
 | succ m => rfl
theorem blkOf_zero {a : Option Addr} {n : Nat} : blkOf (.slice a n 0) = none := by cases a <;> rfl
def famV (ps : List Value) (qs : List (List Value)) : Value := .tuple #[.tuple ps.toArray, .tuple (qs.map fun us => Value.tuple us.toArray).toArray]
theorem famV_inj {ps ps' : List Value} {qs qs' : List (List Value)} (h : famV ps qs = famV ps' qs') : ps = ps' ∧ qs = qs' := by
 unfold famV at h
 simp only [Value.tuple.injEq, Array.mk.injEq, List.cons.injEq, and_true, true_and] at h
 obtain ⟨h1, h2⟩ := h
 refine ⟨h1, ?_⟩
 clear h1
 induction qs generalizing qs' with
 | nil =>
  cases qs' with
  | nil => rfl
  | cons _ _ => simp at h2
 | cons u q ih =>
  cases qs' with
  | nil => simp at h2
  | cons u' q' =>
   simp only [List.map_cons, List.cons.injEq, Value.tuple.injEq, Array.mk.injEq] at h2
   rw [h2.1, ih h2.2]
def Has (x : Value) (b : Nat) : Prop := blkOf x = some b ∨ ∃ ps qs us u, x = famV ps qs ∧ us ∈ qs ∧ u ∈ us ∧ blkOf u = some b
theorem has_slice {a : Option Addr} {n m b : Nat} : Has (.slice a n m) b ↔ blkOf (.slice a n m) = some b := by
 constructor
 ·
  rintro (h | ⟨ps, qs, us, u, h, _⟩)
  ·
   exact h
  ·
   cases h
 ·
  exact .inl
theorem has_pos {b o n m : Nat} {s : Option _} (h : 0 < m) : Has (.slice (some ⟨b, o, s⟩) n m) b := .inl (blkOf_pos h)
theorem has_pos_iff {b o n m c : Nat} {s : Option _} (h : 0 < m) : Has (.slice (some ⟨b, o, s⟩) n m) c ↔ c = b := by
 rw [has_slice, blkOf_pos h]
 exact ⟨fun e => (Option.some.inj e).symm, fun e => by rw [e]⟩
theorem has_zero {a : Option Addr} {n b : Nat} : ¬ Has (.slice a n 0) b := by
 rw [has_slice, blkOf_zero]
 intro h; cases h
theorem has_ptr {a : Addr} {b : Nat} : Has (.pointer (some a)) b ↔ a.block = b := by
 constructor
 ·
  rintro (h | ⟨ps, qs, us, u, h, _⟩)
  ·
   cases h; rfl
  ·
   cases h
 ·
  rintro rfl; exact .inl rfl
theorem has_map {r b : Nat} : Has (.map (some r)) b ↔ r = b := by
 constructor
 ·
  rintro (h | ⟨ps, qs, us, u, h, _⟩)
  ·
   cases h; rfl
  ·
   cases h
 ·
  rintro rfl; exact .inl rfl
theorem has_fam {ps : List Value} {qs : List (List Value)} {b : Nat} : Has (famV ps qs) b ↔ ∃ us u, us ∈ qs ∧ u ∈ us ∧ blkOf u = some b := by
 constructor
 ·
  rintro (h | ⟨ps', qs', us, u, h, h1, h2, h3⟩)
  ·
   cases h
  ·
   obtain ⟨_, rfl⟩ := famV_inj h
   exact ⟨us, u, h1, h2, h3⟩
 ·
  rintro ⟨us, u, h1, h2, h3⟩
  exact .inr ⟨ps, qs, us, u, rfl, h1, h2, h3⟩
def zipInts : List IntKind → List Int → List Value
 | k :: ks, n :: ns => .int k n :: zipInts ks ns
 | _, _ => []
def strOf (q : List Int) : ByteArray := ⟨(q.map fun n => UInt8.ofNat n.toNat).toArray⟩
def kv : KT → List Int → Value
 | .int1 k, q => .int k (q.getD 0 0)
 | .ints ks, q => .agg (zipInts ks q).toArray
 | .str, q => .string (strOf q)
def okq : KT → List Int → Prop
 | .int1 _, q => q.length = 1
 | .ints ks, q => q.length = ks.length
 | .str, q => ∀ n ∈ q, 0 ≤ n ∧ n < 256
def mkV (ag : Bool) (us : List Value) : Value := if ag then .agg us.toArray else us.getD 0 undef
structure MapAt (w : World) (r : Nat) (K : KT) (ag : Bool) (has : List Int → Bool) (g : List Int → List Value) : Prop where
 ex : ∃ es clock, w.heap[r]? = some (.map es clock) ∧ (∀ e ∈ es.toList, ∃ q, e.key = kv K q ∧ okq K q ∧ has q = true ∧ e.val = mkV ag (g q)) ∧
  (∀ q, has q = true → okq K q ∧ ∃ e ∈ es.toList, e.key = kv K q) ∧ es.toList.Pairwise (fun a b => a.key ≠ b.key)
theorem MapAt.lt {w : World} {r : Nat} {K : KT} {ag : Bool} {has : List Int → Bool} {g : List Int → List Value} (h : MapAt w r K ag has g) : r < w.heap.size := by
 obtain ⟨es, c, h, _⟩ := h.ex
 exact (Array.getElem?_eq_some_iff.1 h).1
theorem MapAt.keep {w w' : World} {r : Nat} {K : KT} {ag : Bool} {has : List Int → Bool} {g : List Int → List Value} (h : MapAt w r K ag has g) (hb : w'.heap[r]? = w.heap[r]?) : MapAt w' r K ag has g := by
 obtain ⟨es, c, h, k⟩ := h.ex
 exact ⟨es, c, hb.trans h, k⟩
abbrev Mu := Nat → Option Value
def held (A : Nat → Prop) (μ : Mu) (b : Nat) : Prop := A b ∨ ∃ k x, μ k = some x ∧ Has x b
def RowAt (w : World) (b o sz n : Nat) (g : Nat → Nat → Value) : Prop :=
 b < w.heap.size ∧ ∀ i j, i < n → j < sz → w.cell? ⟨b, o + i * sz + j, none⟩ = some (g i j) ∧ (g i j).oneCell' = true
inductive D (w : World) (H : Nat → Prop) (μ : Mu) : SV → Value → Prop
 | int {k : IntKind} {n : Int} : D w H μ (.int k n) (.int k n)
 | bool {b : Bool} : D w H μ (.bool b) (.bool b)
 | con {v : Value} : D w H μ (.con v) v
 | own {k off b : Nat} (h : μ k = some (.pointer (some ⟨b, 0, none⟩))) : D w H μ (.own k off) (.pointer (some ⟨b, off, none⟩))
 | osl {k n m : Nat} {a : Option Addr} (h : μ k = some (.slice a n m)) : D w H μ (.osl k) (.slice a n m)
 | oel {k sz i off b o n m : Nat} (h : μ k = some (.slice (some ⟨b, o, none⟩) n m)) : D w H μ (.oel k sz i off) (.pointer (some ⟨b, o + i * sz + off, none⟩))
 | sl {sz n : Nat} {f : Nat → List SV} {c : Option Nat} (a : Option Addr) (b o m : Nat) (g : Nat → Nat → Value) (hm : n ≤ m) (hx : m ≤ maxLen) (hc : c = none ∨ c = some m)
   (hrow : 0 < n → a = some ⟨b, o, none⟩ ∧ ¬ H b ∧ RowAt w b o sz n g) (hl : ∀ i, i < n → (f i).length = sz ∧ (f i).all SV.pure = true)
   (hd : ∀ (i j : Nat) (s : SV), i < n → (f i)[j]? = some s → D w H μ s (g i j)) : D w H μ (.sl sz n f c) (.slice a n m)
 | rel {sz n i off : Nat} {f : Nat → List SV} (b o : Nat) (g : Nat → Nat → Value) (hi : i < n) (hb : ¬ H b) (hrow : RowAt w b o sz n g) (hl : ∀ i, i < n → (f i).length = sz ∧ (f i).all SV.pure = true)
   (hd : ∀ (i j : Nat) (s : SV), i < n → (f i)[j]? = some s → D w H μ s (g i j)) : D w H μ (.rel sz n f i off) (.pointer (some ⟨b, o + i * sz + off, none⟩))
 | agg {cs : List SV} (vs : List Value) (hl : vs.length = cs.length) (hd : ∀ (i : Nat) (s : SV) (v : Value), cs[i]? = some s → vs[i]? = some v → D w H μ s v) : D w H μ (.agg cs) (.agg vs.toArray)
 | tup {cs : List SV} (vs : List Value) (hl : vs.length = cs.length) (hd : ∀ (i : Nat) (s : SV) (v : Value), cs[i]? = some s → vs[i]? = some v → D w H μ s v) : D w H μ (.tup cs) (.tuple vs.toArray)
 | clo {fn : FuncId} {cs : List SV} (vs : List Value) (hl : vs.length = cs.length) (hd : ∀ (i : Nat) (s : SV) (v : Value), cs[i]? = some s → vs[i]? = some v → D w H μ s v) : D w H μ (.clo fn cs) (.func (.func fn) #[] vs.toArray)
 | omp {k : Nat} {r : Option Nat} (h : μ k = some (.map r)) : D w H μ (.omp k) (.map r)
 | mp {K : KT} {ag : Bool} {has : List Int → Bool} {val : List Int → List SV} (r : Nat) (g : List Int → List Value) (hb : ¬ H r) (hm : MapAt w r K ag has g)
   (hl : ∀ q, has q = true → (g q).length = (val q).length ∧ (val q).all SV.pure = true)
   (hd : ∀ (q : List Int) (i : Nat) (s : SV) (v : Value), has q = true → (val q)[i]? = some s → (g q)[i]? = some v → D w H μ s v) : D w H μ (.mp K ag has val) (.map (some r))
 | fp {ok : Bool} {k i off : Nat} {v : Value} (h : if ok = true then ∃ ps qs b, μ k = some (famV ps qs) ∧ ps[i]? = some (.pointer (some ⟨b, 0, none⟩)) ∧ v = .pointer (some ⟨b, off, none⟩) else v = .pointer none) : D w H μ (.fp ok k i off) v
 | ub {b : Bool} {p q : Prop} (h1 : b = true → p) (h2 : b = false → q) : D w H μ (.ub p q) (.bool b)
 | any {v : Value} : D w H μ .any v
theorem D.fp_mk {w' : World} {H' : Nat → Prop} {μ μ' : Mu} {ok : Bool} {k i off : Nat} {v : Value} (hk : ∀ ps qs, μ k = some (famV ps qs) → ∃ ps' qs', μ' k = some (famV ps' qs') ∧ ∀ p, ps[i]? = some p → ps'[i]? = some p)
  (h : if ok = true then ∃ ps qs b, μ k = some (famV ps qs) ∧ ps[i]? = some (.pointer (some ⟨b, 0, none⟩)) ∧ v = .pointer (some ⟨b, off, none⟩) else v = .pointer none) : D w' H' μ' (.fp ok k i off) v := by
 refine .fp ?_
 split
 ·
  rename_i e
  rw [if_pos e] at h
  obtain ⟨ps, qs, b, h1, h2, h3⟩ := h
  obtain ⟨ps', qs', e1, e2⟩ := hk ps qs h1
  exact ⟨ps', qs', b, e1, e2 _ h2, h3⟩
 ·
  rename_i e
  rwa [if_neg e] at h
theorem D.fp_keep {w w' : World} {H H' : Nat → Prop} {μ μ' : Mu} {ok : Bool} {k i off : Nat} {v : Value} (hk : ∀ ps qs, μ k = some (famV ps qs) → ∃ ps' qs', μ' k = some (famV ps' qs') ∧ ∀ p, ps[i]? = some p → ps'[i]? = some p)
  (h : D w H μ (.fp ok k i off) v) : D w' H' μ' (.fp ok k i off) v := by
 cases h with
 | fp h => exact D.fp_mk hk h
structure Keeps (w w' : World) (H H' : Nat → Prop) (μ μ' : Mu) : Prop where
 size : w.heap.size ≤ w'.heap.size
 block : ∀ b, b < w.heap.size → ¬ H b → w'.heap[b]? = w.heap[b]?
 less : ∀ b, b < w.heap.size → H' b → H b
 own : ∀ k x, μ k = some x → μ' k = some x
theorem cell_of_heap {w w' : World} {a : Addr} (h : w'.heap[a.block]? = w.heap[a.block]?) : w'.cell? a = w.cell? a := by
 unfold World.cell?; rw [h]
theorem RowAt.keep {w w' : World} {b o sz n : Nat} {g : Nat → Nat → Value} (h : RowAt w b o sz n g) (hs : w.heap.size ≤ w'.heap.size) (hb : w'.heap[b]? = w.heap[b]?) : RowAt w' b o sz n g :=
 ⟨Nat.lt_of_lt_of_le h.1 hs, fun i j hi hj => ⟨(cell_of_heap (a := ⟨b, _, none⟩) hb).trans (h.2 i j hi hj).1, (h.2 i j hi hj).2⟩⟩
theorem D.keep {w w' : World} {H H' : Nat → Prop} {μ μ' : Mu} {s : SV} {v : Value} (hk : Keeps w w' H H' μ μ') (h : D w H μ s v) : D w' H' μ' s v := by
 induction h with
 | int => exact .int
 | bool => exact .bool
 | con => exact .con
 | own h => exact .own (hk.own _ _ h)
 | osl h => exact .osl (hk.own _ _ h)
 | oel h => exact .oel (hk.own _ _ h)
 | sl a b o m g hm hx hc hrow hl hd ih =>
  exact .sl a b o m g hm hx hc (fun hn => by
   obtain ⟨e, hb, hr⟩ := hrow hn
   exact ⟨e, fun hh => hb (hk.less _ hr.1 hh), hr.keep hk.size (hk.block _ hr.1 hb)⟩) hl ih
 | rel b o g hi hb hrow hl hd ih => exact .rel b o g hi (fun hh => hb (hk.less _ hrow.1 hh)) (hrow.keep hk.size (hk.block _ hrow.1 hb)) hl ih
 | agg vs hl hd ih => exact .agg vs hl ih
 | tup vs hl hd ih => exact .tup vs hl ih
 | clo vs hl hd ih => exact .clo vs hl ih
 | omp h => exact .omp (hk.own _ _ h)
 | mp r g hb hm hl hd ih => exact .mp r g (fun hh => hb (hk.less _ hm.lt hh)) (hm.keep (hk.block _ hm.lt hb)) hl ih
 | fp h => exact D.fp_mk (fun ps qs e => ⟨ps, qs, hk.own _ _ e, fun _ h => h⟩) h
 | ub h1 h2 => exact .ub h1 h2
 | any => exact .any
structure Mem where
 cs : List SV
 rows : List (Nat × (Nat → List SV))
inductive Blk where
 | cells (T : TypeId) (cs : List SV)
 | row (T : TypeId) (sz n : Nat) (f : Nat → List SV) (c : Option Nat)
 | map (K : KT) (ag : Bool) (has : List Int → Bool) (val : List Int → List SV)
 | fam (T : TypeId) (Ts : List (TypeId × Nat)) (n : Nat) (hole : Option (Nat × Nat)) (F : Nat → Mem)
 | pmap (K : KT) (k : Nat) (has : List Int → Bool) (idx : List Int → Nat)
 | dead
def CellsOK (w : World) (H : Nat → Prop) (μ : Mu) (x : Value) (T : TypeId) (cs : List SV) : Prop :=
 ∃ b vs, x = .pointer (some ⟨b, 0, none⟩) ∧ w.heap[b]? = some (.cells (List.toArray vs) T (0, 0)) ∧ vs.length = cs.length ∧ (∀ v ∈ vs, v.oneCell' = true) ∧ ∀ (i : Nat) (s : SV) (v : Value), cs[i]? = some s → vs[i]? = some v → D w H μ s v
def RowOK (w : World) (H : Nat → Prop) (μ : Mu) (x : Value) (T : TypeId) (sz n : Nat) (f : Nat → List SV) (c : Option Nat) : Prop :=
 ∃ a m, x = .slice a n m ∧ n ≤ m ∧ m ≤ maxLen ∧ (c = none ∨ c = some m) ∧ (∀ i, i < n → (f i).length = sz ∧ (f i).all SV.pure = true) ∧
   (m = 0 ∨ ∃ b o vs, 0 < m ∧ a = some ⟨b, o, none⟩ ∧ w.heap[b]? = some (.cells (List.toArray vs) T (0, 0)) ∧ o + m * sz ≤ vs.length ∧ (∀ v ∈ vs, v.oneCell' = true) ∧
    ∀ (i j : Nat) (s : SV) (v : Value), i < n → (f i)[j]? = some s → vs[o + i * sz + j]? = some v → D w H μ s v)
def loc (us : List Value) : Mu := fun j => us[j]?
def SV.memc : SV → Bool
 | .osl _ => true
 | s => s.pure
structure MemOK (w : World) (H : Nat → Prop) (T : TypeId) (Ts : List (TypeId × Nat)) (m : Mem) (p : Value) (us : List Value) : Prop where
 cells : CellsOK w H (loc us) p T m.cs
 memc : m.cs.all SV.memc = true
 len : us.length = Ts.length
 rlen : m.rows.length = Ts.length
 rows : ∀ (j : Nat) (t : TypeId × Nat) (r : Nat × (Nat → List SV)) (u : Value), Ts[j]? = some t → m.rows[j]? = some r → us[j]? = some u → RowOK w H (loc us) u t.1 t.2 r.1 r.2 none
structure FamOK (w : World) (H : Nat → Prop) (T : TypeId) (Ts : List (TypeId × Nat)) (n : Nat) (hole : Option Nat) (F : Nat → Mem) (ps : List Value) (qs : List (List Value)) : Prop where
 pl : ps.length = n
 ql : qs.length = n
 nd : ∀ (i j i' j' : Nat) (us us' : List Value) (u u' : Value) (b : Nat), qs[i]? = some us → us[j]? = some u → blkOf u = some b → qs[i']? = some us' → us'[j']? = some u' → blkOf u' = some b → i = i' ∧ j = j'
 mem : ∀ i, i < n → ∃ b us, ps[i]? = some (.pointer (some ⟨b, 0, none⟩)) ∧ qs[i]? = some us ∧ ((hole = some i ∧ us = []) ∨ (hole ≠ some i ∧ ∃ us', us = .pointer (some ⟨b, 0, none⟩) :: us' ∧ MemOK w H T Ts (F i) (.pointer (some ⟨b, 0, none⟩)) us'))
def HoleOK (μ : Mu) (hole : Option (Nat × Nat)) (ps : List Value) : Prop := ∀ i c, hole = some (i, c) → ∃ p, ps[i]? = some p ∧ μ c = some p
theorem HoleOK.keep {μ μ' : Mu} {hole : Option (Nat × Nat)} {ps : List Value} (h : HoleOK μ hole ps) (hk : ∀ i c p, hole = some (i, c) → μ c = some p → μ' c = some p) : HoleOK μ' hole ps := fun i c e => by
 obtain ⟨p, h1, h2⟩ := h i c e
 exact ⟨p, h1, hk i c p e h2⟩
def BlkOK (w : World) (H : Nat → Prop) (μ : Mu) (x : Value) : Blk → Prop
 | .cells T cs => ∃ b vs, x = .pointer (some ⟨b, 0, none⟩) ∧ w.heap[b]? = some (.cells (List.toArray vs) T (0, 0)) ∧ vs.length = cs.length ∧ (∀ v ∈ vs, v.oneCell' = true) ∧ ∀ (i : Nat) (s : SV) (v : Value), cs[i]? = some s → vs[i]? = some v → D w H μ s v
 | .row T sz n f c => ∃ a m, x = .slice a n m ∧ n ≤ m ∧ m ≤ maxLen ∧ (c = none ∨ c = some m) ∧ (∀ i, i < n → (f i).length = sz ∧ (f i).all SV.pure = true) ∧
   (m = 0 ∨ ∃ b o vs, 0 < m ∧ a = some ⟨b, o, none⟩ ∧ w.heap[b]? = some (.cells (List.toArray vs) T (0, 0)) ∧ o + m * sz ≤ vs.length ∧ (∀ v ∈ vs, v.oneCell' = true) ∧
    ∀ (i j : Nat) (s : SV) (v : Value), i < n → (f i)[j]? = some s → vs[o + i * sz + j]? = some v → D w H μ s v)
 | .map K ag has val => ∃ r g, x = .map (some r) ∧ MapAt w r K ag has g ∧ (∀ q, has q = true → (g q).length = (val q).length ∧ (val q).all SV.pure = true) ∧
   ∀ (q : List Int) (i : Nat) (s : SV) (v : Value), has q = true → (val q)[i]? = some s → (g q)[i]? = some v → D w H μ s v
 | .fam T Ts n hole F => ∃ ps qs, x = famV ps qs ∧ FamOK w H T Ts n (hole.map (·.1)) F ps qs ∧ HoleOK μ hole ps
 | .pmap K k has idx => (∃ ps qs, μ k = some (famV ps qs)) ∧ ∃ r g, x = .map (some r) ∧ MapAt w r K false has g ∧ ∀ q, has q = true → ∃ p, g q = [p] ∧ D w H μ (.fp true k (idx q) 0) p
 | .dead => True
structure Own (B0 : Nat) (X A : Nat → Prop) (w : World) (μ : Mu) (own : List Blk) : Prop where
 blk : ∀ k x, μ k = some x → ∃ bl, own[k]? = some bl ∧ BlkOK w (held A μ) μ x bl
 inj : ∀ k k' x x' b, μ k = some x → μ k' = some x' → Has x b → Has x' b → k = k'
 rng : ∀ k x b, μ k = some x → Has x b → b < w.heap.size ∧ ¬ A b ∧ (B0 ≤ b ∨ X b)
 bnd : ∀ b, A b → b < w.heap.size
abbrev dwOn : Prop := False
structure Fr (B0 : Nat) (X : Nat → Prop) (w0 w : World) : Prop where
 os : w.os = w0.os
 tape : w.tape = w0.tape
 output : w.output = w0.output
 drawn : dwOn → w0.drawn ≤ w.drawn
 size : w0.heap.size ≤ w.heap.size
 block : ∀ i, i < B0 → ¬ X i → w.heap[i]? = w0.heap[i]?
theorem Fr.refl (B0 : Nat) (X : Nat → Prop) (w : World) : Fr B0 X w w := ⟨rfl, rfl, rfl, fun _ => Nat.le_refl _, Nat.le_refl _, fun _ _ _ => rfl⟩
theorem Fr.trans {B0 : Nat} {X : Nat → Prop} {a b c : World} (h : Fr B0 X a b) (k : Fr B0 X b c) : Fr B0 X a c :=
 ⟨k.os.trans h.os, k.tape.trans h.tape, k.output.trans h.output, fun d => Nat.le_trans (h.drawn d) (k.drawn d), Nat.le_trans h.size k.size, fun i hi hx => (k.block i hi hx).trans (h.block i hi hx)⟩
theorem CellsOK.keep {w w' : World} {H H' : Nat → Prop} {μ μ' : Mu} {x : Value} {T : TypeId} {cs : List SV} (hk : Keeps w w' H H' μ μ') (hb : ∀ b, blkOf x = some b → w'.heap[b]? = w.heap[b]?) (h : CellsOK w H μ x T cs) : CellsOK w' H' μ' x T cs := by
 obtain ⟨b, vs, rfl, hh, hl, h1, hd⟩ := h
 exact ⟨b, vs, rfl, (hb b rfl).trans hh, hl, h1, fun i s v hs hv => (hd i s v hs hv).keep hk⟩
theorem RowOK.keep {w w' : World} {H H' : Nat → Prop} {μ μ' : Mu} {x : Value} {T : TypeId} {sz n : Nat} {f : Nat → List SV} {c : Option Nat} (hk : Keeps w w' H H' μ μ') (hb : ∀ b, blkOf x = some b → w'.heap[b]? = w.heap[b]?) (h : RowOK w H μ x T sz n f c) : RowOK w' H' μ' x T sz n f c := by
 obtain ⟨a, m, rfl, hn, hm, hc, hl, h⟩ := h
 refine ⟨a, m, rfl, hn, hm, hc, hl, ?_⟩
 rcases h with h | ⟨b, o, vs, hmp, rfl, hh, ho, h1, hd⟩
 ·
  exact .inl h
 ·
  exact .inr ⟨b, o, vs, hmp, rfl, (hb b (blkOf_pos hmp)).trans hh, ho, h1, fun i j s v hi hs hv => (hd i j s v hi hs hv).keep hk⟩
structure Keeps0 (w w' : World) (H H' : Nat → Prop) : Prop where
 size : w.heap.size ≤ w'.heap.size
 block : ∀ b, b < w.heap.size → ¬ H b → w'.heap[b]? = w.heap[b]?
 less : ∀ b, b < w.heap.size → H' b → H b
theorem Keeps0.any {w w' : World} {H H' : Nat → Prop} (h : Keeps0 w w' H H') (μ : Mu) : Keeps w w' H H' μ μ := ⟨h.size, h.block, h.less, fun _ _ h => h⟩
theorem Keeps.k0 {w w' : World} {H H' : Nat → Prop} {μ μ' : Mu} (h : Keeps w w' H H' μ μ') : Keeps0 w w' H H' := ⟨h.size, h.block, h.less⟩
theorem MemOK.keep {w w' : World} {H H' : Nat → Prop} {T : TypeId} {Ts : List (TypeId × Nat)} {m : Mem} {p : Value} {us : List Value} (hk : Keeps0 w w' H H') (hb : ∀ u b, u = p ∨ u ∈ us → blkOf u = some b → w'.heap[b]? = w.heap[b]?) (h : MemOK w H T Ts m p us) : MemOK w' H' T Ts m p us :=
 ⟨h.cells.keep (hk.any _) (fun b => hb p b (.inl rfl)), h.memc, h.len, h.rlen, fun j t r u h1 h2 h3 => (h.rows j t r u h1 h2 h3).keep (hk.any _) (fun b => hb u b (.inr (List.mem_of_getElem? h3)))⟩
theorem FamOK.keep {w w' : World} {H H' : Nat → Prop} {T : TypeId} {Ts : List (TypeId × Nat)} {n : Nat} {hole : Option Nat} {F : Nat → Mem} {ps : List Value} {qs : List (List Value)} (hk : Keeps0 w w' H H') (hb : ∀ b, Has (famV ps qs) b → w'.heap[b]? = w.heap[b]?)
  (h : FamOK w H T Ts n hole F ps qs) : FamOK w' H' T Ts n hole F ps qs := by
 refine ⟨h.pl, h.ql, h.nd, fun i hi => ?_⟩
 obtain ⟨b, us, h1, h2, h3⟩ := h.mem i hi
 refine ⟨b, us, h1, h2, ?_⟩
 rcases h3 with h3 | ⟨h3, us', rfl, h4⟩
 ·
  exact .inl h3
 ·
  refine .inr ⟨h3, us', rfl, h4.keep hk (fun u c hu hc => hb c (has_fam.2 ⟨_, u, List.mem_of_getElem? h2, ?_, hc⟩))⟩
  rcases hu with rfl | hu
  ·
   simp
  ·
   simp [hu]
theorem BlkOK.keep {w w' : World} {H H' : Nat → Prop} {μ μ' : Mu} {x : Value} {bl : Blk} (hk : Keeps w w' H H' μ μ') (hb : ∀ b, Has x b → w'.heap[b]? = w.heap[b]?) (h : BlkOK w H μ x bl) : BlkOK w' H' μ' x bl := by
 cases bl with
 | cells T cs => exact CellsOK.keep hk (fun b hx => hb b (.inl hx)) h
 | row T sz n f c => exact RowOK.keep hk (fun b hx => hb b (.inl hx)) h
 | map K ag has val =>
  obtain ⟨r, g, rfl, hm, hl, hd⟩ := h
  exact ⟨r, g, rfl, hm.keep (hb r (.inl rfl)), hl, fun q i s v hq hs hv => (hd q i s v hq hs hv).keep hk⟩
 | fam T Ts n hole F =>
  obtain ⟨ps, qs, rfl, h, hh⟩ := h
  exact ⟨ps, qs, rfl, h.keep hk.k0 hb, hh.keep (fun _ _ _ _ e => hk.own _ _ e)⟩
 | pmap K k has idx =>
  obtain ⟨⟨ps, qs, he⟩, r, g, rfl, hm, hd⟩ := h
  exact ⟨⟨ps, qs, hk.own _ _ he⟩, r, g, rfl, hm.keep (hb r (.inl rfl)), fun q hq => by obtain ⟨p, e, h⟩ := hd q hq; exact ⟨p, e, h.keep hk⟩⟩
 | dead => exact trivial
theorem Keeps.drew {w : World} {H : Nat → Prop} {μ : Mu} : Keeps w w.drew H H μ μ := ⟨Nat.le_refl _, fun _ _ _ => rfl, fun _ _ h => h, fun _ _ h => h⟩
theorem Fr.drew {B0 : Nat} {X : Nat → Prop} {w : World} : Fr B0 X w w.drew := ⟨rfl, rfl, rfl, fun _ => Nat.le_succ _, Nat.le_refl _, fun _ _ _ => rfl⟩
theorem Own.drew {B0 : Nat} {X A : Nat → Prop} {w : World} {μ : Mu} {own : List Blk} (h : Own B0 X A w μ own) : Own B0 X A w.drew μ own :=
 ⟨fun k x hx => by
  obtain ⟨bl, e, hb⟩ := h.blk k x hx
  exact ⟨bl, e, hb.keep Keeps.drew (fun _ _ => rfl)⟩, h.inj, h.rng, h.bnd⟩
theorem Keeps.alloc {w : World} {H : Nat → Prop} {μ : Mu} (o : Obj) : Keeps w (w.alloc o) H H μ μ :=
 ⟨by simp, fun b hb _ => RowKit.Below.heap_alloc w o b hb, fun _ _ h => h, fun _ _ h => h⟩
theorem Fr.alloc {B0 : Nat} {X : Nat → Prop} {w : World} (o : Obj) (hB : B0 ≤ w.heap.size) : Fr B0 X w (w.alloc o) :=
 ⟨rfl, rfl, rfl, fun _ => Nat.le_refl _, by simp, fun i hi _ => RowKit.Below.heap_alloc w o i (by omega)⟩
def Mu.set (μ : Mu) (k : Nat) (x : Value) : Mu := fun j => if j = k then some x else μ j
theorem own_new {B0 : Nat} {X A : Nat → Prop} {w : World} {μ : Mu} {own : List Blk} (h : Own B0 X A w μ own) (hB : B0 ≤ w.heap.size) {k : Nat} {bl : Blk} (hk : μ k = none) (hbl : own[k]? = some bl) (o : Obj) (x : Value)
  (hx : ∀ b, Has x b → b = w.heap.size) (hok : ∀ μ', μ' = μ.set k x → Keeps w (w.alloc o) (held A μ) (held A μ') μ μ' → BlkOK (w.alloc o) (held A μ') μ' x bl) :
  Own B0 X A (w.alloc o) (μ.set k x) own ∧ Keeps w (w.alloc o) (held A μ) (held A (μ.set k x)) μ (μ.set k x) := by
 have hkp : Keeps w (w.alloc o) (held A μ) (held A (μ.set k x)) μ (μ.set k x) := by
  refine ⟨by simp, fun b hb _ => RowKit.Below.heap_alloc w o b hb, fun b hb hh => ?_, fun j y hy => ?_⟩
  ·
   rcases hh with hh | ⟨j, y, hj, hy⟩
   ·
    exact .inl hh
   ·
    unfold Mu.set at hj
    split at hj
    ·
     cases hj
     have := hx _ hy
     omega
    ·
     exact .inr ⟨j, y, hj, hy⟩
  ·
   unfold Mu.set
   split
   ·
    subst_vars; rw [hk] at hy; cases hy
   ·
    exact hy
 refine ⟨⟨fun j y hj => ?_, fun j j' y y' b hj hj' hy hy' => ?_, fun j y b hj hy => ?_, fun b hb => by have := h.bnd b hb; simp; omega⟩, hkp⟩
 ·
  by_cases e : j = k
  ·
   subst e
   have : y = x := by simpa [Mu.set] using hj.symm
   subst this
   exact ⟨bl, hbl, hok _ rfl hkp⟩
  ·
   have hj' : μ j = some y := by simpa [Mu.set, e] using hj
   obtain ⟨bl', e1, hb⟩ := h.blk j y hj'
   exact ⟨bl', e1, hb.keep hkp (fun b hb' => RowKit.Below.heap_alloc w o b (h.rng j y b hj' hb').1)⟩
 ·
  have key : ∀ j y, Mu.set μ k x j = some y → Has y b → (j = k ∧ b = w.heap.size) ∨ (j ≠ k ∧ μ j = some y) := by
   intro j y hj hy
   by_cases e : j = k
   ·
    subst e
    have : y = x := by simpa [Mu.set] using hj.symm
    subst this
    exact .inl ⟨rfl, hx _ hy⟩
   ·
    exact .inr ⟨e, by simpa [Mu.set, e] using hj⟩
  rcases key j y hj hy with ⟨e, eb⟩ | ⟨e, em⟩ <;> rcases key j' y' hj' hy' with ⟨e', eb'⟩ | ⟨e', em'⟩
  ·
   rw [e, e']
  ·
   have := (h.rng j' y' b em' hy').1; omega
  ·
   have := (h.rng j y b em hy).1; omega
  ·
   exact h.inj j j' y y' b em em' hy hy'
 ·
  by_cases e : j = k
  ·
   subst e
   have : y = x := by simpa [Mu.set] using hj.symm
   subst this
   have := hx _ hy
   subst this
   exact ⟨by simp, fun ha => Nat.lt_irrefl _ (h.bnd _ ha), .inl hB⟩
  ·
   have hj' : μ j = some y := by simpa [Mu.set, e] using hj
   obtain ⟨r1, r2, r3⟩ := h.rng j y b hj' hy
   exact ⟨by simp; omega, r2, r3⟩
def aggD : TypeDesc → Bool
 | .struct _ | .array _ _ => true
 | _ => false
section
variable {P : Program} {w : World}
theorem run_loadCellsFrom (a : Addr) (us : List Value) : ∀ (i : Nat) (acc : Array Value), (∀ (j : Nat) (u : Value), us[j]? = some u → w.cell? (a.add (i + j)) = some u) →
  (loadCellsFrom a i us.length acc).run P w = .ok (acc ++ us.toArray) w := by
 induction us with
 | nil => intro i acc _; simp [loadCellsFrom]
 | cons u us ih =>
  intro i acc h
  have h0 : w.cell? (a.add i) = some u := by simpa using h 0 u rfl
  have := ih (i + 1) (acc.push u) (fun j v hv => by have := h (j + 1) v (by simpa using hv); rwa [Nat.add_assoc, Nat.add_comm 1 j])
  simp [loadCellsFrom, Go.load, Sem.run, h0, this]
theorem run_loadCells (a : Addr) (us : List Value) (n : Nat) (hn : us.length = n) (h : ∀ (j : Nat) (u : Value), us[j]? = some u → w.cell? (a.add j) = some u) :
  (loadCells a n).run P w = .ok us.toArray w := by
 subst hn
 have := run_loadCellsFrom (P := P) (w := w) a us 0 #[] (fun j u hu => by simpa using h j u hu)
 simpa [loadCells] using this
theorem run_isAgg {T : TypeId} {d : TypeDesc} (h : P.underlying T = some d) : (isAgg T).run P w = .ok (aggD d) w := by
 cases d <;> simp [isAgg, run_underlying h, aggD]
theorem run_sizeOf {T : TypeId} {i : TypeInfo} (h : P.info? T = some i) : (sizeOf T).run P w = .ok i.size w := by simp [sizeOf, typeInfo, h]
theorem run_load (a : Addr) (u : Value) (h : w.cell? a = some u) : (Go.load a).run P w = .ok u w := by simp [Go.load, Sem.run, h]
theorem run_zeroValue {T : TypeId} {i : TypeInfo} {z : Value} (h : P.info? T = some i) (hz : i.zero = some z) : (zeroValue T).run P w = .ok z w := by simp [zeroValue, typeInfo, h, hz]
def putRow (w : World) (b : Nat) (vs : List Value) (T : TypeId) : World := { w with heap := w.heap.setIfInBounds b (.cells vs.toArray T (0, 0)) }
theorem putRow_same {b : Nat} {vs : List Value} {T : TypeId} (h : b < w.heap.size) : (putRow w b vs T).heap[b]? = some (.cells vs.toArray T (0, 0)) := by
 simp [putRow, h]
theorem putRow_other {b i : Nat} {vs : List Value} {T : TypeId} (h : i ≠ b) : (putRow w b vs T).heap[i]? = w.heap[i]? := by
 simp [putRow, Array.getElem?_setIfInBounds_ne (Ne.symm h)]
theorem putRow_size {b : Nat} {vs : List Value} {T : TypeId} : (putRow w b vs T).heap.size = w.heap.size := by simp [putRow]
theorem lt_of_row {b : Nat} {c : Array Value} {T : TypeId} {z : Nat × Nat} (h : w.heap[b]? = some (.cells c T z)) : b < w.heap.size := by
 rcases Nat.lt_or_ge b w.heap.size with h' | h'
 ·
  exact h'
 ·
  rw [Array.getElem?_eq_none h'] at h; cases h
theorem cell_row {b : Nat} {vs : List Value} {T : TypeId} {z : Nat × Nat} (h : w.heap[b]? = some (.cells vs.toArray T z)) (j : Nat) : w.cell? ⟨b, j, none⟩ = vs[j]? := by
 simp [World.cell?, h]
theorem setCell_row {b j : Nat} {vs : List Value} {T : TypeId} {v : Value} (h : w.heap[b]? = some (.cells vs.toArray T (0, 0))) : w.setCell ⟨b, j, none⟩ v = putRow w b (vs.set j v) T := by
 have hb := lt_of_row h
 unfold World.setCell putRow
 congr 1
 apply Array.ext_getElem?
 intro i
 rw [Array.getElem?_modify, Array.getElem?_setIfInBounds]
 by_cases e : b = i
 ·
  subst e
  rw [if_pos rfl, if_pos rfl, if_pos hb, h]
  simp
 ·
  simp [e]
theorem putRow_putRow {b : Nat} {vs us : List Value} {T U : TypeId} : putRow (putRow w b vs T) b us U = putRow w b us U := by
 unfold putRow; simp
theorem putRow_self {b : Nat} {vs : List Value} {T : TypeId} (h : w.heap[b]? = some (.cells vs.toArray T (0, 0))) : putRow w b vs T = w := by
 have hb := lt_of_row h
 unfold putRow
 have : w.heap.setIfInBounds b (.cells vs.toArray T (0, 0)) = w.heap := by
  apply Array.ext_getElem?
  intro i
  rw [Array.getElem?_setIfInBounds]
  by_cases e : b = i
  ·
   subst e; rw [if_pos rfl, if_pos hb, h]
  ·
   simp [e]
 rw [this]
theorem run_store1 {a : Addr} {v u : Value} (h1 : v.oneCell' = true) (hc : w.cell? a = some u) (hf : w.frozen? a = false) : (Go.store a v).run P w = .ok () (w.setCell a v) := by
 have : (Go.store a v).run P w = stored P w a v .plain := run_store P w a _ _ h1
 rw [this]; simp [stored, hc, hf]
def zipOver {α : Type} : List α → List α → List α
 | _ :: vs, u :: us => u :: zipOver vs us
 | vs, _ => vs
def over {α : Type} : List α → Nat → List α → List α
 | vs, 0, us => zipOver vs us
 | v :: vs, n + 1, us => v :: over vs n us
 | [], _ + 1, _ => []
theorem zipOver_length {α : Type} : ∀ (vs us : List α), (zipOver vs us).length = vs.length
 | [], us => by simp [zipOver]
 | _ :: _, [] => by simp [zipOver]
 | _ :: vs, _ :: us => by simp [zipOver, zipOver_length vs us]
theorem zipOver_get {α : Type} : ∀ (vs us : List α) (j : Nat), us.length ≤ vs.length → (zipOver vs us)[j]? = if j < us.length then us[j]? else vs[j]?
 | [], [], j, _ => by simp [zipOver]
 | [], _ :: _, _, h => by simp at h
 | _ :: _, [], j, _ => by simp [zipOver]
 | v :: vs, u :: us, 0, _ => by simp [zipOver]
 | v :: vs, u :: us, j + 1, h => by
  simp only [List.length_cons] at h
  simp only [zipOver, List.getElem?_cons_succ, zipOver_get vs us j (by omega), List.length_cons]
  by_cases e : j < us.length
  ·
   rw [if_pos e, if_pos (by omega)]
  ·
   rw [if_neg e, if_neg (by omega)]
theorem over_length {α : Type} (us : List α) : ∀ (vs : List α) (off : Nat), (over vs off us).length = vs.length
 | [], 0 => by simp [over, zipOver_length]
 | v :: vs, 0 => by simp only [over, zipOver_length]
 | v :: vs, n + 1 => by simp [over, over_length us vs n]
 | [], _ + 1 => by simp [over]
theorem over_get {α : Type} (us : List α) : ∀ (vs : List α) (off j : Nat), off + us.length ≤ vs.length → (over vs off us)[j]? = if off ≤ j ∧ j < off + us.length then us[j - off]? else vs[j]?
 | vs, 0, j, h => by
  have e : over vs 0 us = zipOver vs us := by cases vs <;> rfl
  rw [e, zipOver_get _ _ _ (by omega)]
  by_cases q : j < us.length
  ·
   rw [if_pos q, if_pos (by omega)]; rfl
  ·
   rw [if_neg q, if_neg (by omega)]
 | v :: vs, n + 1, 0, h => by
  rw [if_neg (by omega)]; rfl
 | v :: vs, n + 1, j + 1, h => by
  simp only [List.length_cons] at h
  simp only [over, List.getElem?_cons_succ, over_get us vs n j (by omega)]
  by_cases q : n ≤ j ∧ j < n + us.length
  ·
   rw [if_pos q, if_pos (by omega), show j + 1 - (n + 1) = j - n from by omega]
  ·
   rw [if_neg q, if_neg (by omega)]
 | [], n + 1, j, h => by simp at h
theorem over_nil {α : Type} (vs : List α) (off : Nat) (h : off ≤ vs.length) : over vs off [] = vs := by
 refine List.ext_getElem? fun j => ?_
 rw [over_get _ _ _ _ (by simpa using h), if_neg (by simp <;> omega)]
theorem over_cons {α : Type} (u : α) (us vs : List α) (off : Nat) (h : off + (us.length + 1) ≤ vs.length) : over vs off (u :: us) = over (vs.set off u) (off + 1) us := by
 refine List.ext_getElem? fun j => ?_
 rw [over_get _ _ _ _ (by simpa using h), over_get _ _ _ _ (by simp; omega), List.getElem?_set]
 simp only [List.length_cons]
 by_cases e : off = j
 ·
  subst e
  rw [if_pos (by omega), if_neg (by omega), if_pos rfl, if_pos (by omega)]
  simp
 ·
  by_cases e2 : off + 1 ≤ j ∧ j < off + 1 + us.length
  ·
   rw [if_pos e2, if_pos (by omega)]
   have : j - off = (j - (off + 1)) + 1 := by omega
   rw [this]; rfl
  ·
   rw [if_neg e2, if_neg e, if_neg (by omega)]
theorem run_storeCells (b o : Nat) (T : TypeId) (us : List Value) : ∀ (w : World) (vs : List Value) (i : Nat), w.heap[b]? = some (.cells vs.toArray T (0, 0)) → o + i + us.length ≤ vs.length → (∀ u ∈ us, u.oneCell' = true) →
  (storeCells ⟨b, o, none⟩ us i).run P w = .ok () (putRow w b (over vs (o + i) us) T) := by
 induction us with
 | nil => intro w vs i h hl _; rw [over_nil _ _ (by simpa using hl)]; simp [storeCells, putRow_self h]
 | cons u us ih =>
  intro w vs i h hl h1
  simp only [List.length_cons] at hl
  have hc : w.cell? ⟨b, o + i, none⟩ = some (vs[o + i]'(by omega)) := by rw [cell_row h]; exact List.getElem?_eq_getElem (by omega)
  have hf : w.frozen? ⟨b, o + i, none⟩ = false := by simp [World.frozen?, h]
  have hr := run_store1 (P := P) (h1 u (by simp)) hc hf
  rw [setCell_row h] at hr
  have hb := lt_of_row h
  have := ih (putRow w b (vs.set (o + i) u) T) (vs.set (o + i) u) (i + 1) (putRow_same hb) (by simp; omega) (fun x hx => h1 x (by simp [hx]))
  rw [putRow_putRow] at this
  simp only [storeCells, Addr.add_lit, Sem.run_bind, hr, Result.andThen_ok]
  rw [over_cons _ _ _ _ (by omega)]
  simpa [Nat.add_assoc] using this
end
theorem Keeps.put {w : World} {A : Nat → Prop} {μ : Mu} {b k : Nat} {x : Value} {vs : List Value} {T : TypeId} (hk : μ k = some x) (hx : Has x b) : Keeps w (putRow w b vs T) (held A μ) (held A μ) μ μ :=
 ⟨by rw [putRow_size]; exact Nat.le_refl _, fun c _ hc => putRow_other (fun e => hc (by subst e; exact .inr ⟨k, x, hk, hx⟩)), fun _ _ h => h, fun _ _ h => h⟩
theorem own_put {B0 : Nat} {X A : Nat → Prop} {w : World} {μ : Mu} {own : List Blk} (h : Own B0 X A w μ own) {k b : Nat} {x : Value} {vs : List Value} {T : TypeId} {bl : Blk} (hk : μ k = some x) (hx : Has x b)
  (hok : BlkOK (putRow w b vs T) (held A μ) μ x bl) : Own B0 X A (putRow w b vs T) μ (own.set k bl) := by
 have hkp : Keeps w (putRow w b vs T) (held A μ) (held A μ) μ μ := Keeps.put hk hx
 refine ⟨fun j y hj => ?_, h.inj, fun j y c hj hy => by rw [putRow_size]; exact h.rng j y c hj hy, fun c hc => by rw [putRow_size]; exact h.bnd c hc⟩
 by_cases e : j = k
 ·
  subst e
  have : y = x := by rw [hk] at hj; exact (Option.some.inj hj).symm
  subst this
  obtain ⟨bl0, e0, _⟩ := h.blk j y hk
  have hlt : j < own.length := (List.getElem?_eq_some_iff.1 e0).1
  exact ⟨bl, by simp [hlt], hok⟩
 ·
  obtain ⟨bl0, e0, hb0⟩ := h.blk j y hj
  refine ⟨bl0, by rw [List.getElem?_set_ne (Ne.symm e)]; exact e0, hb0.keep hkp (fun c hc => putRow_other (fun ec => ?_))⟩
  subst ec
  exact e (h.inj j k y x c hj hk hc hx)
theorem Fr.put {B0 : Nat} {X : Nat → Prop} {w : World} {b : Nat} {vs : List Value} {T : TypeId} (hb : B0 ≤ b ∨ X b) : Fr B0 X w (putRow w b vs T) :=
 ⟨rfl, rfl, rfl, fun _ => Nat.le_refl _, by rw [putRow_size]; exact Nat.le_refl _, fun i hi hX => putRow_other (fun e => by subst e; rcases hb with hb | hb; omega; exact hX hb)⟩
def inK : IntKind → Int → Prop
 | .i8, n => -128 ≤ n ∧ n ≤ 127
 | .i16, n => -32768 ≤ n ∧ n ≤ 32767
 | .i32, n => -2147483648 ≤ n ∧ n ≤ 2147483647
 | .i64, n => -9223372036854775808 ≤ n ∧ n ≤ 9223372036854775807
 | .u8, n => 0 ≤ n ∧ n ≤ 255
 | .u16, n => 0 ≤ n ∧ n ≤ 65535
 | .u32, n => 0 ≤ n ∧ n ≤ 4294967295
 | .u64, n => 0 ≤ n ∧ n ≤ 18446744073709551615
theorem wrap_inK {k : IntKind} {n : Int} (h : inK k n) : k.wrap n = n := by
 cases k <;> simp only [inK] at h <;> simp only [IntKind.wrap, IntKind.bits, IntKind.signed] <;> simp <;> omega
def ofCell : Value → SV
 | .int k n => .int k n
 | .bool b => .bool b
 | .func (.func f) ⟨[]⟩ ⟨[]⟩ => .clo f []
 | v => .con v
def ofVal : Value → SV
 | .agg cs => .agg (cs.toList.map ofCell)
 | v => ofCell v
section
variable {w : World} {H : Nat → Prop} {μ : Mu}
theorem D_ofCell (v : Value) : D w H μ (ofCell v) v := by
 unfold ofCell
 split
 ·
  exact .int
 ·
  exact .bool
 ·
  exact .clo [] rfl (fun i s v h _ => by simp at h)
 ·
  exact .con
theorem D_map_ofCell (vs : List Value) : ∀ (i : Nat) (s : SV) (v : Value), (vs.map ofCell)[i]? = some s → vs[i]? = some v → D w H μ s v := by
 intro i s v hs hv
 simp [hv] at hs
 subst hs
 exact D_ofCell v
theorem D_ofVal (v : Value) : D w H μ (ofVal v) v := by
 unfold ofVal
 split
 ·
  rename_i cs
  obtain ⟨cs⟩ := cs
  exact .agg cs (by simp) (D_map_ofCell cs)
 ·
  exact D_ofCell v
end
def SV.isCell : SV → Bool
 | .con v => v.oneCell'
 | .agg _ | .tup _ | .any => false
 | _ => true
def SV.cells : SV → Option (List SV)
 | .agg cs => some cs
 | .tup _ | .any => none
 | .con v => if v.oneCell' then some [.con v] else none
 | s => some [s]
theorem D.one {w : World} {H : Nat → Prop} {μ : Mu} {s : SV} {v : Value} (h : D w H μ s v) (hc : s.isCell = true) : v.oneCell' = true := by
 cases h with
 | fp h =>
  split at h
  ·
   obtain ⟨_, _, _, _, _, rfl⟩ := h; rfl
  ·
   subst h; rfl
 | _ => simp_all [SV.isCell, Value.oneCell']
theorem D.cells {w : World} {H : Nat → Prop} {μ : Mu} {s : SV} {v : Value} {cs : List SV} (h : D w H μ s v) (hc : s.cells = some cs) :
  v.cells.toList.length = cs.length ∧ ∀ (i : Nat) (t : SV) (u : Value), cs[i]? = some t → v.cells.toList[i]? = some u → D w H μ t u := by
 have one : ∀ {s : SV} {v : Value}, D w H μ s v → v.cells = #[v] → cs = [s] → v.cells.toList.length = cs.length ∧ ∀ (i : Nat) (t : SV) (u : Value), cs[i]? = some t → v.cells.toList[i]? = some u → D w H μ t u := by
  intro s v hd hv e
  subst e
  rw [hv]
  refine ⟨rfl, fun i t u ht hu => ?_⟩
  match i with
  | 0 => simp at ht hu; subst ht hu; exact hd
  | i + 1 => simp at ht
 cases h with
 | agg vs hl hd =>
  simp [SV.cells] at hc
  subst hc
  exact ⟨by simpa [Value.cells] using hl, fun i t u ht hu => hd i t u ht (by simpa [Value.cells] using hu)⟩
 | tup => simp [SV.cells] at hc
 | any => simp [SV.cells] at hc
 | ub h1 h2 => exact one (.ub h1 h2) rfl (by simpa [SV.cells] using hc.symm)
 | con =>
  simp only [SV.cells] at hc
  split at hc
  ·
   rename_i h1
   exact one .con (by cases v <;> simp_all [Value.cells, Value.oneCell']) (by simpa using hc.symm)
  ·
   cases hc
 | int => exact one .int rfl (by simpa [SV.cells] using hc.symm)
 | bool => exact one .bool rfl (by simpa [SV.cells] using hc.symm)
 | own h => exact one (.own h) rfl (by simpa [SV.cells] using hc.symm)
 | osl h => exact one (.osl h) rfl (by simpa [SV.cells] using hc.symm)
 | oel h => exact one (.oel h) rfl (by simpa [SV.cells] using hc.symm)
 | sl a b o m g hm hx hc' hrow hl hd => exact one (.sl a b o m g hm hx hc' hrow hl hd) rfl (by simpa [SV.cells] using hc.symm)
 | rel b o g hi hb hrow hl hd => exact one (.rel b o g hi hb hrow hl hd) rfl (by simpa [SV.cells] using hc.symm)
 | clo vs hl hd => exact one (.clo vs hl hd) rfl (by simpa [SV.cells] using hc.symm)
 | omp h => exact one (.omp h) rfl (by simpa [SV.cells] using hc.symm)
 | fp h =>
  have hv : v.cells = #[v] := by
   split at h
   ·
    obtain ⟨_, _, _, _, _, rfl⟩ := h; rfl
   ·
    subst h; rfl
  exact one (.fp h) hv (by simpa [SV.cells] using hc.symm)
 | mp r g hb hm hl hd => exact one (.mp r g hb hm hl hd) rfl (by simpa [SV.cells] using hc.symm)
theorem flat_len {α : Type} {F : Nat → List α} {sz : Nat} : ∀ {m k : Nat}, (∀ i, k ≤ i → i < k + m → (F i).length = sz) → ((List.range' k m).flatMap F).length = m * sz
 | 0, _, _ => by simp
 | m + 1, k, h => by
  rw [List.range'_succ, List.flatMap_cons, List.length_append, h k (Nat.le_refl _) (by omega), flat_len (m := m) (k := k + 1) (fun i h1 h2 => h i (by omega) (by omega)), Nat.succ_mul, Nat.add_comm]
theorem flat_get {α : Type} {F : Nat → List α} {sz : Nat} : ∀ {m k x : Nat} {a : α}, (∀ i, k ≤ i → i < k + m → (F i).length = sz) → ((List.range' k m).flatMap F)[x]? = some a → ∃ i j, i < m ∧ j < sz ∧ x = i * sz + j ∧ (F (k + i))[j]? = some a
 | 0, k, x, a, _, h => by simp at h
 | m + 1, k, x, a, hl, h => by
  rw [List.range'_succ, List.flatMap_cons] at h
  have h0 := hl k (Nat.le_refl _) (by omega)
  by_cases hx : x < sz
  ·
   rw [List.getElem?_append_left (by omega)] at h
   exact ⟨0, x, by omega, hx, by omega, h⟩
  ·
   rw [List.getElem?_append_right (by omega), h0] at h
   obtain ⟨i, j, hi, hj, e, hF⟩ := flat_get (m := m) (k := k + 1) (fun i h1 h2 => hl i (by omega) (by omega)) h
   refine ⟨i + 1, j, by omega, hj, ?_, by rw [show k + (i + 1) = k + 1 + i by omega]; exact hF⟩
   rw [Nat.succ_mul]; omega
def readAt (own : List Blk) (n : Nat) : SV → Option (List SV)
 | .own k off => match own[k]? with
  | some (.cells _ cs) => if off + n ≤ cs.length then some ((cs.drop off).take n) else none
  | _ => none
 | .rel sz m f i off => if off + n ≤ (f i).length then some (((f i).drop off).take n) else if i = 0 ∧ off = 0 ∧ n = m * sz then some ((List.range' 0 m).flatMap f) else none
 | .oel k sz i off => match own[k]? with
  | some (.row _ sz' _ f _) => if sz = sz' ∧ off + n ≤ sz then some (((f i).drop off).take n) else none
  | _ => none
 | _ => none
def readPre (own : List Blk) : SV → Prop
 | .oel k _ i _ => match own[k]? with
  | some (.row _ _ n _ _) => i < n
  | _ => False
 | _ => True
section
variable {B0 : Nat} {X A : Nat → Prop} {w : World} {μ : Mu} {own ownN : List Blk}
theorem get_drop_take {α : Type} {l : List α} {off n j : Nat} {s : α} (h : ((l.drop off).take n)[j]? = some s) : j < n ∧ l[off + j]? = some s := by
 rw [List.getElem?_take] at h
 split at h
 ·
  rename_i hj; exact ⟨hj, by simpa using h⟩
 ·
  cases h
theorem read_sound (hO : Own B0 X A w μ ownN) (hsub : ∀ (k : Nat) (bl : Blk), own[k]? = some bl → ownN[k]? = some bl) {p : SV} {v : Value} {n : Nat} {cs : List SV}
  (hd : D w (held A μ) μ p v) (hr : readAt own n p = some cs) (hp : readPre own p) :
  ∃ (a : Addr) (us : List Value), v = .pointer (some a) ∧ a.spot = none ∧ us.length = n ∧ cs.length = n ∧ (∀ (j : Nat) (u : Value), us[j]? = some u → w.cell? (a.add j) = some u) ∧
   ∀ (i : Nat) (s : SV) (u : Value), cs[i]? = some s → us[i]? = some u → D w (held A μ) μ s u := by
 cases hd with
 | own h =>
  rename_i k off b
  simp only [readAt] at hr
  split at hr
  ·
   rename_i T cs0 hk
   split at hr
   ·
    rename_i hoff
    simp only [Option.some.injEq] at hr
    subst hr
    obtain ⟨bl, e, hok⟩ := hO.blk k _ h
    rw [hsub _ _ hk] at e
    cases e
    obtain ⟨b', vs, e1, hh, hl, h1, hD⟩ := hok
    cases e1
    refine ⟨⟨b, off, none⟩, (vs.drop off).take n, rfl, rfl, by simp; omega, by simp; omega, fun j u hu => ?_, fun i s u hs hu => ?_⟩
    ·
     obtain ⟨_, hu'⟩ := get_drop_take hu
     rw [Addr.add_lit, cell_row hh]; exact hu'
    ·
     obtain ⟨_, hs'⟩ := get_drop_take hs
     obtain ⟨_, hu'⟩ := get_drop_take hu
     exact hD _ _ _ hs' hu'
   ·
    cases hr
  ·
   cases hr
 | rel b o g hi hb hrow hl hD =>
  rename_i sz nn i off f
  simp only [readAt] at hr
  split at hr
  ·
   rename_i hoff
   simp only [Option.some.injEq] at hr
   subst hr
   have hli := (hl i hi).1
   refine ⟨⟨b, o + i * sz + off, none⟩, ((List.range sz).map (g i) |>.drop off).take n, rfl, rfl, by simp; omega, by simp; omega, fun j u hu => ?_, fun j s u hs hu => ?_⟩
   ·
    obtain ⟨_, hu'⟩ := get_drop_take hu
    simp only [List.getElem?_map, List.getElem?_range, Option.map_eq_some_iff] at hu'
    obtain ⟨x, hx, e⟩ := hu'
    have hx' : x = off + j ∧ off + j < sz := by
     rw [List.getElem?_eq_some_iff] at hx
     obtain ⟨hlt, e'⟩ := hx
     simp at hlt e'
     exact ⟨e'.symm, hlt⟩
    obtain ⟨rfl, hlt⟩ := hx'
    rw [Addr.add_lit, ← e, ← (hrow.2 i (off + j) hi hlt).1]
    simp [Nat.add_assoc]
   ·
    obtain ⟨_, hs'⟩ := get_drop_take hs
    obtain ⟨_, hu'⟩ := get_drop_take hu
    simp only [List.getElem?_map, Option.map_eq_some_iff] at hu'
    obtain ⟨x, hx, e⟩ := hu'
    rw [List.getElem?_eq_some_iff] at hx
    obtain ⟨hlt, e'⟩ := hx
    simp at e'
    subst e' e
    exact hD i _ _ hi hs'
  ·
   split at hr
   ·
    rename_i hw
    obtain ⟨rfl, rfl, rfl⟩ := hw
    simp only [Option.some.injEq] at hr
    subst hr
    have hgl : ∀ i, 0 ≤ i → i < 0 + nn → ((List.range sz).map (g i)).length = sz := fun i _ _ => by simp
    have hfl : ∀ i, 0 ≤ i → i < 0 + nn → (f i).length = sz := fun i _ h => (hl i (by omega)).1
    refine ⟨⟨b, o + 0 * sz + 0, none⟩, (List.range' 0 nn).flatMap fun i => (List.range sz).map (g i), rfl, rfl, flat_len hgl, flat_len hfl, fun j u hu => ?_, fun j s u hs hu => ?_⟩
    ·
     obtain ⟨i, k, hi', hk, rfl, e⟩ := flat_get hgl hu
     simp only [Nat.zero_add, List.getElem?_map, Option.map_eq_some_iff] at e
     obtain ⟨x, hx, rfl⟩ := e
     have : x = k := by
      rw [List.getElem?_eq_some_iff] at hx
      obtain ⟨hlt, e'⟩ := hx
      simp at e'
      exact e'.symm
     subst this
     rw [Addr.add_lit, ← (hrow.2 i x hi' hk).1]
     congr 2
     omega
    ·
     obtain ⟨i, k, hi', hk, e1, e⟩ := flat_get hgl hu
     obtain ⟨i2, k2, hi2, hk2, e2, e3⟩ := flat_get hfl hs
     have hdiv : i = i2 ∧ k = k2 := by
      have h1 : (i * sz + k) / sz = i := by rw [Nat.mul_comm, Nat.mul_add_div (by omega), Nat.div_eq_of_lt hk, Nat.add_zero]
      have h2 : (i2 * sz + k2) / sz = i2 := by rw [Nat.mul_comm, Nat.mul_add_div (by omega), Nat.div_eq_of_lt hk2, Nat.add_zero]
      have h3 : i = i2 := by rw [← h1, ← h2, ← e1, ← e2]
      subst h3
      exact ⟨rfl, by omega⟩
     obtain ⟨rfl, rfl⟩ := hdiv
     simp only [Nat.zero_add, List.getElem?_map, Option.map_eq_some_iff] at e e3
     obtain ⟨x, hx, rfl⟩ := e
     have : x = k := by
      rw [List.getElem?_eq_some_iff] at hx
      obtain ⟨hlt, e'⟩ := hx
      simp at e'
      exact e'.symm
     subst this
     exact hD i x s hi' e3
   ·
    cases hr
 | oel h =>
  rename_i k sz i off b o n1 m1
  simp only [readAt] at hr
  simp only [readPre] at hp
  split at hr
  ·
   rename_i T sz' n' f c hk
   rw [hk] at hp
   simp only at hp
   split at hr
   ·
    rename_i hoff
    obtain ⟨rfl, hoff⟩ := hoff
    simp only [Option.some.injEq] at hr
    subst hr
    obtain ⟨bl, e, hok⟩ := hO.blk k _ h
    rw [hsub _ _ hk] at e
    cases e
    obtain ⟨a, m, e1, hn, hm, hc, hl, hrest⟩ := hok
    cases e1
    rcases hrest with e2 | ⟨b', o', vs, hmp, e2, hh, ho, h1, hD⟩
    ·
     omega
    cases e2
    have hli := (hl i hp).1
    have hbound : o + i * sz + sz ≤ vs.length := by
     have : i * sz + sz ≤ m1 * sz := by rw [← Nat.succ_mul]; exact Nat.mul_le_mul_right _ (by omega)
     omega
    refine ⟨⟨b, o + i * sz + off, none⟩, (vs.drop (o + i * sz + off)).take n, rfl, rfl, by simp; omega, by simp; omega, fun j u hu => ?_, fun j s u hs hu => ?_⟩
    ·
     obtain ⟨_, hu'⟩ := get_drop_take hu
     rw [Addr.add_lit, cell_row hh]; exact hu'
    ·
     obtain ⟨_, hs'⟩ := get_drop_take hs
     obtain ⟨_, hu'⟩ := get_drop_take hu
     exact hD i _ _ _ hp hs' (by rw [← hu']; congr 1; omega)
   ·
    cases hr
  ·
   cases hr
 | _ => simp [readAt] at hr
end
def isAggB (P : Program) (T : TypeId) : Option Bool := (P.underlying T).map aggD
def sizeB (P : Program) (T : TypeId) : Option Nat := (P.info? T).map (·.size)
def asVal (P : Program) (T : TypeId) (cs : List SV) : Option SV :=
 match isAggB P T, cs with
 | some true, cs => some (.agg cs)
 | some false, [s] => some s
 | _, _ => none
def evLoad (P : Program) (own : List Blk) (T : TypeId) (p : SV) : Option (Prop × SV) := do
 let n ← sizeB P T
 let cs ← readAt own n p
 let s ← asVal P T cs
 some (readPre own p, s)
def fieldB (P : Program) (T : TypeId) (f : Nat) : Option (Nat × TypeId × Nat) :=
 match P.underlying T with
 | some (.struct fs) => match fs[f]? with
  | some fd => (sizeB P fd.type).map fun n => (fd.offset, fd.type, n)
  | none => none
 | _ => none
def SV.plus (off : Nat) : SV → Option SV
 | .own k o => some (.own k (o + off))
 | .oel k sz i o => some (.oel k sz i (o + off))
 | .rel sz n f i o => some (.rel sz n f i (o + off))
 | _ => none
def evFieldAddr (P : Program) (T : TypeId) (f : Nat) (p : SV) : Option (Prop × SV) := do
 let (off, _, n) ← fieldB P T f
 if n = 0 then none else
 let s ← p.plus off
 some (True, s)
def evField (P : Program) (T : TypeId) (f : Nat) (x : SV) : Option (Prop × SV) := do
 let (off, U, n) ← fieldB P T f
 match x with
 | .agg cs => if off + n ≤ cs.length then (asVal P U ((cs.drop off).take n)).map fun s => (True, s) else none
 | _ => none
section
variable {P : Program} {B0 : Nat} {X A : Nat → Prop} {w : World} {μ : Mu} {own ownN : List Blk}
theorem asVal_sound {H : Nat → Prop} {T : TypeId} {cs : List SV} {us : List Value} {s : SV} (hs : asVal P T cs = some s) (hl : us.length = cs.length) (hD : ∀ (i : Nat) (s : SV) (u : Value), cs[i]? = some s → us[i]? = some u → D w H μ s u) :
  ∃ d, P.underlying T = some d ∧ ((aggD d = true ∧ D w H μ s (.agg us.toArray)) ∨ (aggD d = false ∧ ∃ u, us = [u] ∧ D w H μ s u)) := by
 unfold asVal isAggB at hs
 cases hu : P.underlying T with
 | none => simp [hu] at hs
 | some d =>
  refine ⟨d, rfl, ?_⟩
  simp only [hu, Option.map_some] at hs
  cases hb : aggD d with
  | true =>
   rw [hb] at hs
   simp at hs
   subst hs
   exact .inl ⟨rfl, .agg us hl hD⟩
  | false =>
   rw [hb] at hs
   match cs, us, hl, hs with
   | [t], [u], _, hs =>
    simp at hs
    subst hs
    exact .inr ⟨rfl, u, rfl, hD 0 t u rfl rfl⟩
   | [], _, _, hs => simp at hs
   | _ :: _ :: _, _, _, hs => simp at hs
   | [t], [], hl, _ => simp at hl
   | [t], _ :: _ :: _, hl, _ => simp at hl
theorem load_sound (hO : Own B0 X A w μ ownN) (hsub : ∀ (k : Nat) (bl : Blk), own[k]? = some bl → ownN[k]? = some bl) {T : TypeId} {p s : SV} {v : Value} {pre : Prop}
  (hd : D w (held A μ) μ p v) (he : evLoad P own T p = some (pre, s)) (hp : pre) : ∃ u, (Instr.loadAt T v).run P w = .ok u w ∧ D w (held A μ) μ s u := by
 simp only [evLoad, sizeB, Option.bind_eq_bind, Option.bind_eq_some_iff, Option.map_eq_some_iff, Option.some.injEq, Prod.mk.injEq] at he
 obtain ⟨n, ⟨inf, hi, rfl⟩, cs, hr, s', hs, rfl, rfl⟩ := he
 obtain ⟨a, us, rfl, _, hul, hcl, hc, hD⟩ := read_sound hO hsub hd hr hp
 obtain ⟨d, hu, h | h⟩ := asVal_sound hs (by omega) hD
 ·
  refine ⟨_, ?_, h.2⟩
  simp [Instr.loadAt, Instr.sureAddr, loadVar, run_isAgg hu, h.1, run_sizeOf hi, run_loadCells a us inf.size hul hc]
 ·
  obtain ⟨hb, u, rfl, hD'⟩ := h
  refine ⟨u, ?_, hD'⟩
  have h0 : w.cell? a = some u := by have := hc 0 u rfl; rwa [Addr.add_zero'] at this
  simp only [Instr.loadAt, Instr.sureAddr, loadVar, Sem.run_bind, Sem.run_pure, Result.andThen_ok, run_isAgg hu, hb]
  simpa using run_load a u h0
theorem plus_sound {H : Nat → Prop} {off : Nat} {p s : SV} {v : Value} (hd : D w H μ p v) (hs : p.plus off = some s) : ∃ a, v = .pointer (some a) ∧ a.spot = none ∧ D w H μ s (.pointer (some (a.add off))) := by
 cases hd <;> simp [SV.plus] at hs
 case own h => subst hs; exact ⟨_, rfl, rfl, by rw [Addr.add_lit]; exact .own h⟩
 case oel h => subst hs; exact ⟨_, rfl, rfl, by rw [Addr.add_lit, Nat.add_assoc]; exact .oel h⟩
 case rel b o g hi hb hrow hl hD => subst hs; exact ⟨_, rfl, rfl, by rw [Addr.add_lit, Nat.add_assoc]; exact .rel b o g hi hb hrow hl hD⟩
theorem fieldB_sound {T : TypeId} {f off n : Nat} {U : TypeId} (h : fieldB P T f = some (off, U, n)) : ∃ fs fd inf, P.underlying T = some (.struct fs) ∧ fs[f]? = some fd ∧ P.info? U = some inf ∧ inf.size = n ∧ fd.type = U ∧ fd.offset = off := by
 unfold fieldB sizeB at h
 split at h
 ·
  rename_i fs hfs
  split at h
  ·
   rename_i fd hfd
   simp only [Option.map_eq_some_iff, Prod.mk.injEq] at h
   obtain ⟨_, ⟨inf, hi, rfl⟩, rfl, rfl, rfl⟩ := h
   exact ⟨fs, fd, inf, hfs, hfd, hi, rfl, rfl, rfl⟩
  ·
   cases h
 ·
  cases h
theorem fieldAddr_sound {H : Nat → Prop} {T : TypeId} {f : Nat} {p s : SV} {v : Value} {pre : Prop} (hd : D w H μ p v) (he : evFieldAddr P T f p = some (pre, s)) : ∃ u, (Instr.fieldAt T v f).run P w = .ok u w ∧ D w H μ s u := by
 simp only [evFieldAddr, Option.bind_eq_bind, Option.bind_eq_some_iff] at he
 obtain ⟨⟨off, U, n⟩, hf, he⟩ := he
 simp only at he
 split at he
 ·
  cases he
 rename_i hn
 simp only [Option.bind_eq_some_iff, Option.some.injEq, Prod.mk.injEq] at he
 obtain ⟨s', hs, rfl, rfl⟩ := he
 obtain ⟨fs, fd, inf, hfs, hfd, hi, rfl, rfl, rfl⟩ := fieldB_sound hf
 obtain ⟨a, rfl, _, hD⟩ := plus_sound hd hs
 refine ⟨_, ?_, hD⟩
 simp [Instr.fieldAt, run_underlying hfs, hfd, Instr.sureAddr, fieldPlace, run_sizeOf hi, hn]
theorem field_sound {H : Nat → Prop} {T : TypeId} {f : Nat} {x s : SV} {v : Value} {pre : Prop} (hd : D w H μ x v) (he : evField P T f x = some (pre, s)) : ∃ u, (Instr.field T v f).run P w = .ok u w ∧ D w H μ s u := by
 simp only [evField, Option.bind_eq_bind, Option.bind_eq_some_iff] at he
 obtain ⟨⟨off, U, n⟩, hf, he⟩ := he
 obtain ⟨fs, fd, inf, hfs, hfd, hi, rfl, rfl, rfl⟩ := fieldB_sound hf
 simp only at he
 split at he
 ·
  rename_i cs
  split at he
  ·
   rename_i hoff
   simp only [Option.map_eq_some_iff, Prod.mk.injEq] at he
   obtain ⟨s', hs, rfl, rfl⟩ := he
   cases hd with
   | agg vs hl hD =>
    obtain ⟨d, hu, h | h⟩ := asVal_sound (w := w) (H := H) (μ := μ) (us := (vs.drop fd.offset).take inf.size) hs (by simp; omega) (fun i s u hs hu => by
     obtain ⟨_, hs'⟩ := get_drop_take hs
     obtain ⟨_, hu'⟩ := get_drop_take hu
     exact hD _ _ _ hs' hu')
    ·
     refine ⟨_, ?_, h.2⟩
     have he : vs.toArray.extract fd.offset (fd.offset + inf.size) = ((vs.drop fd.offset).take inf.size).toArray := by
      simp [List.take_drop]
     simp only [Instr.field, Sem.run_bind, run_underlying hfs, Result.andThen_ok, hfd, asAgg, Sem.run_pure, part, run_isAgg hu, h.1, if_true, run_sizeOf hi, he]
    ·
     obtain ⟨hb, u, hus, hD'⟩ := h
     refine ⟨u, ?_, hD'⟩
     have hv : vs[fd.offset]? = some u := by
      have : ((vs.drop fd.offset).take inf.size)[0]? = some u := by rw [hus]; rfl
      simpa using (get_drop_take this).2
     simp only [Instr.field, Sem.run_bind, run_underlying hfs, Result.andThen_ok, hfd, asAgg, Sem.run_pure, part, run_isAgg hu, hb, Bool.false_eq_true, if_false]
     simp [hv]
  ·
   cases he
 ·
  cases he
end
def evBin (op : BinOp) (x y : SV) : Option (Prop × SV) :=
 match op, x, y with
 | .add, .int k a, .int k' b => if k = k' then some (inK k (a + b), .int k (a + b)) else none
 | .sub, .int k a, .int k' b => if k = k' then some (inK k (a - b), .int k (a - b)) else none
 | .mul, .int k a, .int k' b => if k = k' then some (inK k (a * b), .int k (a * b)) else none
 | .quo, .int k a, .int k' b => if k = k' then some (b ≠ 0 ∧ inK k (a.tdiv b), .int k (a.tdiv b)) else none
 | .rem, .int k a, .int k' b => if k = k' then some (b ≠ 0, .int k (a.tmod b)) else none
 | .eql, .int k a, .int k' b => if k = k' then some (True, .bool (decide (a = b))) else none
 | .neq, .int k a, .int k' b => if k = k' then some (True, .bool (!decide (a = b))) else none
 | .lss, .int k a, .int k' b => if k = k' then some (True, .bool (decide (a < b))) else none
 | .leq, .int k a, .int k' b => if k = k' then some (True, .bool (decide (a ≤ b))) else none
 | .gtr, .int k a, .int k' b => if k = k' then some (True, .bool (decide (b < a))) else none
 | .geq, .int k a, .int k' b => if k = k' then some (True, .bool (decide (b ≤ a))) else none
 | _, _, _ => none
section
variable {P : Program} {w : World} {H : Nat → Prop} {μ : Mu}
theorem bin_sound {op : BinOp} {T : TypeId} {xo yo : Operand} {x y s : SV} {v u : Value} {pre : Prop} (hx : D w H μ x v) (hy : D w H μ y u) (he : evBin op x y = some (pre, s)) (hp : pre) :
  ∃ r, (do eqGuard op T xo yo v u; binOp op T v u).run P w = .ok r w ∧ D w H μ s r := by
 unfold evBin at he
 split at he <;> (try cases he)
 all_goals
  cases hx; cases hy
  split at he <;> (try cases he)
  rename_i hk
  subst hk
 case h_1 => refine ⟨_, ?_, .int⟩; simp [go_sem, wrap_inK hp]
 case h_2 => refine ⟨_, ?_, .int⟩; simp [go_sem, wrap_inK hp]
 case h_3 => refine ⟨_, ?_, .int⟩; simp [go_sem, wrap_inK hp]
 case h_4 => refine ⟨_, ?_, .int⟩; simp [go_sem, wrap_inK hp.2, hp.1]
 case h_5 => refine ⟨_, ?_, .int⟩; simp [go_sem, show ¬ _ from hp]
 case h_6 => refine ⟨_, ?_, .bool⟩; simp [go_sem]; rfl
 case h_7 => refine ⟨_, ?_, .bool⟩; simp [go_sem]; rfl
 case h_8 => refine ⟨_, ?_, .bool⟩; simp [go_sem]
 case h_9 => refine ⟨_, ?_, .bool⟩; simp [go_sem]
 case h_10 => refine ⟨_, ?_, .bool⟩; simp [go_sem]
 case h_11 => refine ⟨_, ?_, .bool⟩; simp [go_sem]
def evUn (op : UnOp) (x : SV) : Option (Prop × SV) :=
 match op, x with
 | .neg, .int k a => some (inK k (-a), .int k (-a))
 | .not, .bool b => some (True, .bool (!b))
 | _, _ => none
theorem un_sound {op : UnOp} {x s : SV} {v : Value} {pre : Prop} (hx : D w H μ x v) (he : evUn op x = some (pre, s)) (hp : pre) : ∃ r, (Op.unary op v).run P w = .ok r w ∧ D w H μ s r := by
 unfold evUn at he
 split at he
 ·
  cases hx; cases he; refine ⟨_, ?_, .int⟩; simp [Op.unary, go_sem, wrap_inK hp]
 ·
  cases hx; cases he; refine ⟨_, ?_, .bool⟩; simp [Op.unary]
 ·
  cases he
def evConv (P : Program) (S T : TypeId) (x : SV) : Option (Prop × SV) :=
 match P.underlying S, P.underlying T, x with
 | some _, some (.int k), .int _ n => some (inK k n, .int k n)
 | _, _, _ => none
theorem conv_sound {S T : TypeId} {x s : SV} {v : Value} {pre : Prop} (hx : D w H μ x v) (he : evConv P S T x = some (pre, s)) (hp : pre) : ∃ r, (convert S T v).run P w = .ok r w ∧ D w H μ s r := by
 unfold evConv at he
 split at he
 ·
  rename_i d k k' n hS hT
  cases he
  cases hx
  refine ⟨_, ?_, .int⟩
  have hk : P.intKind T = k := by simp [Program.intKind, hT]
  have := run_convert_int (P := P) w S T k' n (by simp [hS]) (by rw [hk]; exact hT)
  rw [this, hk, wrap_inK hp]
 ·
  cases he
def evExtract (x : SV) (i : Nat) : Option (Prop × SV) :=
 match x with
 | .tup vs => (vs[i]?).map fun s => (True, s)
 | _ => none
theorem extract_sound {x s : SV} {v : Value} {i : Nat} {pre : Prop} (hx : D w H μ x v) (he : evExtract x i = some (pre, s)) : ∃ r, (Instr.extract v i).run P w = .ok r w ∧ D w H μ s r := by
 unfold evExtract at he
 split at he
 ·
  rename_i vs
  simp only [Option.map_eq_some_iff, Prod.mk.injEq] at he
  obtain ⟨s', hs, rfl, rfl⟩ := he
  cases hx with
  | tup us hl hD =>
   have hlt : i < us.length := by rw [hl]; exact (List.getElem?_eq_some_iff.1 hs).1
   refine ⟨us[i], ?_, hD i _ _ hs (List.getElem?_eq_getElem hlt)⟩
   simp [Instr.extract, hlt]
 ·
  cases he
def lenSV (own : List Blk) : SV → Option Nat
 | .con (.slice none 0 0) => some 0
 | .sl _ n _ _ => some n
 | .osl k => match own[k]? with
  | some (.row _ _ n _ _) => some n
  | _ => none
 | _ => none
def capSV (own : List Blk) : SV → Option Nat
 | .con (.slice none 0 0) => some 0
 | .sl _ _ _ c => c
 | .osl k => match own[k]? with
  | some (.row _ _ _ _ c) => c
  | _ => none
 | _ => none
theorem lenSV_sound {B0 : Nat} {X A : Nat → Prop} {own ownN : List Blk} (hO : Own B0 X A w μ ownN) (hsub : ∀ (k : Nat) (bl : Blk), own[k]? = some bl → ownN[k]? = some bl) {x : SV} {v : Value} {n : Nat}
  (hx : D w (held A μ) μ x v) (he : lenSV own x = some n) : ∃ a m, v = .slice a n m ∧ n ≤ m ∧ m ≤ maxLen := by
 cases hx with
 | sl a b o m g hm hx hc hrow hl hd => simp [lenSV] at he; subst he; exact ⟨a, m, rfl, hm, hx⟩
 | osl h =>
  simp only [lenSV] at he
  split at he
  ·
   rename_i T sz n' f c hk
   simp only [Option.some.injEq] at he
   subst he
   obtain ⟨bl, e, hok⟩ := hO.blk _ _ h
   rw [hsub _ _ hk] at e
   cases e
   obtain ⟨a, m, e1, hn, hm, _⟩ := hok
   cases e1
   exact ⟨_, _, rfl, hn, hm⟩
  ·
   cases he
 | con =>
  unfold lenSV at he
  split at he <;> first
   | (rename_i heq; cases heq; cases he; exact ⟨none, 0, rfl, Nat.le_refl _, by simp [maxLen]⟩)
   | simp_all
 | _ => simp [lenSV] at he
theorem capSV_sound {B0 : Nat} {X A : Nat → Prop} {own ownN : List Blk} (hO : Own B0 X A w μ ownN) (hsub : ∀ (k : Nat) (bl : Blk), own[k]? = some bl → ownN[k]? = some bl) {x : SV} {v : Value} {m : Nat}
  (hx : D w (held A μ) μ x v) (he : capSV own x = some m) : ∃ a n, v = .slice a n m := by
 cases hx with
 | sl a b o m' g hm hx hc hrow hl hd =>
  rename_i sz n f c
  simp only [capSV] at he
  rcases hc with hc | hc
  ·
   rw [hc] at he; cases he
  ·
   rw [hc] at he; cases he; exact ⟨a, n, rfl⟩
 | osl h =>
  simp only [capSV] at he
  split at he
  ·
   rename_i T sz n' f c hk
   subst he
   obtain ⟨bl, e, hok⟩ := hO.blk _ _ h
   rw [hsub _ _ hk] at e
   cases e
   obtain ⟨a, m', e1, hn, hm, hc, _⟩ := hok
   cases e1
   rcases hc with hc | hc
   ·
    cases hc
   ·
    cases hc; exact ⟨_, _, rfl⟩
  ·
   cases he
 | con =>
  unfold capSV at he
  split at he <;> first
   | (rename_i heq; cases heq; cases he; exact ⟨none, 0, rfl⟩)
   | simp_all
 | _ => simp [capSV] at he
def isSliceB (P : Program) (T : TypeId) : Option TypeId := match P.underlying T with
 | some (.slice e) => some e
 | _ => none
theorem isSliceB_sound {T e : TypeId} (h : isSliceB P T = some e) : P.underlying T = some (.slice e) := by
 unfold isSliceB at h; split at h <;> simp_all
def evBuiltin (P : Program) (own : List Blk) (b : Builtin) (ts : List TypeId) (xs : List SV) : Option (Prop × SV) :=
 match b, ts, xs with
 | .len, [T], [x] => match isSliceB P T with
  | some _ => (lenSV own x).map fun (n : Nat) => (True, .int .i64 (n : Int))
  | none => none
 | .cap, [T], [x] => match isSliceB P T with
  | some _ => (capSV own x).map fun (n : Nat) => (True, .int .i64 (n : Int))
  | none => none
 | .min, _, [.int k a, .int _ b] => some (True, .int k (min a b))
 | .max, _, [.int k a, .int _ b] => some (True, .int k (max a b))
 | _, _, _ => none
theorem run_min2 (k k' : IntKind) (a b : Int) (ts : Array TypeId) (ty : TypeId) : (Builtin.min_ ts ty #[.int k a, .int k' b]).run P w = .ok (.int k (min a b)) w := by
 simp only [Builtin.min_]
 have : (if b < a then b else a) = min a b := by split <;> omega
 simp [Builtin.min2, this]
theorem run_max2 (k k' : IntKind) (a b : Int) (ts : Array TypeId) (ty : TypeId) : (Builtin.max_ ts ty #[.int k a, .int k' b]).run P w = .ok (.int k (max a b)) w := by
 simp only [Builtin.max_]
 have : (if b > a then b else a) = max a b := by split <;> omega
 simp [Builtin.max2, this]
def intsOf (k : IntKind) : List SV → Option (List Int)
 | [] => some []
 | .int k' n :: r => if k = k' then (intsOf k r).map (n :: ·) else none
 | _ => none
theorem intsOf_spec {k : IntKind} : ∀ {l : List SV} {ns : List Int}, intsOf k l = some ns → l = ns.map (SV.int k)
 | [], ns, h => by simp [intsOf] at h; simp [h]
 | .int k' n :: r, ns, h => by
  simp only [intsOf] at h
  split at h
  ·
   rename_i e
   subst e
   rw [Option.map_eq_some_iff] at h
   obtain ⟨ms, hm, rfl⟩ := h
   rw [intsOf_spec hm]
   rfl
  ·
   cases h
 | .bool _ :: _, _, h | .con _ :: _, _, h | .own _ _ :: _, _, h | .osl _ :: _, _, h | .oel _ _ _ _ :: _, _, h | .sl _ _ _ _ :: _, _, h | .rel _ _ _ _ _ :: _, _, h | .agg _ :: _, _, h | .tup _ :: _, _, h | .clo _ _ :: _, _, h | .any :: _, _, h => by simp [intsOf] at h
def colSV : List SV → Option (Nat → SV)
 | .int k n :: r => (intsOf k (.int k n :: r)).map fun ns j => .int k (ns.getD j 0)
 | _ => none
theorem colSV_spec {l : List SV} {f : Nat → SV} (h : colSV l = some f) : ∀ j s, l[j]? = some s → f j = s ∧ s.pure = true := by
 unfold colSV at h
 split at h
 ·
  rename_i k n r
  rw [Option.map_eq_some_iff] at h
  obtain ⟨ns, hn, rfl⟩ := h
  have e := intsOf_spec hn
  intro j s hs
  rw [e, List.getElem?_map, Option.map_eq_some_iff] at hs
  obtain ⟨m, hm, rfl⟩ := hs
  exact ⟨by simp [List.getD_eq_getElem?_getD, hm], rfl⟩
 ·
  cases h
def gather (l : List SV) (sz : Nat) : Nat → Nat → List SV
 | _, 0 => []
 | off, n + 1 => l.getD off .any :: gather l sz (off + sz) n
theorem gather_get {l : List SV} {sz : Nat} : ∀ {n off j : Nat}, j < n → (gather l sz off n)[j]? = some (l.getD (off + j * sz) .any)
 | n + 1, off, 0, _ => by simp [gather]
 | n + 1, off, j + 1, h => by
  simp only [gather, List.getElem?_cons_succ]
  rw [gather_get (by omega)]
  congr 2
  rw [Nat.succ_mul]; omega
def colsSV (l : List SV) (off sz len : Nat) : Nat → Option (List (Nat → SV))
 | 0 => some []
 | c + 1 => (colsSV l off sz len c).bind fun cs => (colSV (gather l sz (off + c) len)).map fun f => cs ++ [f]
theorem colsSV_spec {l : List SV} {off sz len : Nat} : ∀ {c : Nat} {fs : List (Nat → SV)}, colsSV l off sz len c = some fs → fs.length = c ∧ ∀ (i j : Nat) (s : SV), i < c → j < len → l[off + j * sz + i]? = some s → (fs.map (· j))[i]? = some s ∧ s.pure = true
 | 0, fs, h => by simp [colsSV] at h; subst h; exact ⟨rfl, fun i j s hi => by omega⟩
 | c + 1, fs, h => by
  simp only [colsSV, Option.bind_eq_some_iff, Option.map_eq_some_iff] at h
  obtain ⟨cs, hcs, f, hf, rfl⟩ := h
  obtain ⟨h1, h2⟩ := colsSV_spec hcs
  refine ⟨by simp [h1], fun i j s hi hj hs => ?_⟩
  by_cases e : i = c
  ·
   subst e
   have hg := gather_get (l := l) (sz := sz) (off := off + i) hj
   have e2 : off + i + j * sz = off + j * sz + i := by omega
   rw [e2, List.getD_eq_getElem?_getD, hs] at hg
   obtain ⟨e1, e3⟩ := colSV_spec hf j s hg
   refine ⟨?_, e3⟩
   rw [List.map_append, List.getElem?_append_right (by simp [h1])]
   simp [h1, e1]
  ·
   obtain ⟨e1, e3⟩ := h2 i j s (by omega) hj hs
   refine ⟨?_, e3⟩
   rw [List.map_append, List.getElem?_append_left (by simp [h1]; omega)]
   exact e1
def evIndexAddr (P : Program) (own : List Blk) (T : TypeId) (x i : SV) : Option (Prop × SV) :=
 match i with
 | .int _ n => match P.underlying T with
  | some (.slice e) => match x with
   | .sl sz len f _ => if sizeB P e = some sz ∨ len = 0 then some (0 ≤ n ∧ n < len, .rel sz len f n.toNat 0) else none
   | .osl k => match own[k]? with
    | some (.row _ sz len _ _) => if sizeB P e = some sz then some (0 ≤ n ∧ n < len, .oel k sz n.toNat 0) else none
    | _ => none
   | _ => none
  | some (.array len e) => match x with
   | .rel sz' len' f j off => match sizeB P e with
    | some sz => if sz = sz' then (if len = len' ∧ j = 0 ∧ off = 0 then some (0 ≤ n ∧ n < len, .rel sz len f n.toNat 0) else none) else if off + len * sz ≤ (f j).length then (colsSV (f j) off sz len sz).map fun fs => (0 ≤ n ∧ n < len, .rel sz len (fun j => fs.map (· j)) n.toNat 0) else none
    | none => none
   | .own k off => match sizeB P e with
    | some sz => if n.toNat < len then some (0 ≤ n, .own k (off + n.toNat * sz)) else none
    | none => none
   | _ => none
  | _ => none
 | _ => none
theorem indexAddr_sound {B0 : Nat} {X A : Nat → Prop} {own ownN : List Blk} (hO : Own B0 X A w μ ownN) (hsub : ∀ (k : Nat) (bl : Blk), own[k]? = some bl → ownN[k]? = some bl) {T : TypeId} {x i s : SV} {v u : Value} {pre : Prop}
  (hx : D w (held A μ) μ x v) (hi : D w (held A μ) μ i u) (he : evIndexAddr P own T x i = some (pre, s)) (hp : pre) : ∃ r, (Instr.indexAt T v u).run P w = .ok r w ∧ D w (held A μ) μ s r := by
 unfold evIndexAddr at he
 split at he
 rotate_left
 ·
  cases he
 rename_i ki n
 cases hi
 split at he
 ·
  rename_i e hT
  have hTe : P.elem T = e := by simp [Program.elem, hT]
  split at he
  ·
   rename_i sz len f c
   split at he
   rotate_left
   ·
    cases he
   rename_i hsz
   simp only [Option.some.injEq, Prod.mk.injEq] at he
   obtain ⟨rfl, rfl⟩ := he
   have hn : n.toNat < len := by omega
   have hsz : sizeB P e = some sz := by rcases hsz with h | h; exact h; omega
   simp only [sizeB, Option.map_eq_some_iff] at hsz
   obtain ⟨inf, hinf, rfl⟩ := hsz
   cases hx with
   | sl a b o m g hm hmx hc hrow hl hd =>
    obtain ⟨rfl, hb, hr⟩ := hrow (by omega)
    refine ⟨_, ?_, .rel (off := 0) b o g hn hb hr hl hd⟩
    rw [run_indexAt_slice w T _ _ _ _ _ (by rw [hTe]; exact hT), if_pos hp, hTe, run_sizeOf hinf]
    simp [Addr.add_lit]
  ·
   rename_i k
   split at he
   rotate_left
   ·
    cases he
   rename_i T' sz len f c hk
   split at he
   rotate_left
   ·
    cases he
   rename_i hsz
   simp only [Option.some.injEq, Prod.mk.injEq] at he
   obtain ⟨rfl, rfl⟩ := he
   simp only [sizeB, Option.map_eq_some_iff] at hsz
   obtain ⟨inf, hinf, rfl⟩ := hsz
   cases hx with
   | osl h =>
    obtain ⟨bl, e', hok⟩ := hO.blk _ _ h
    rw [hsub _ _ hk] at e'
    cases e'
    obtain ⟨a, m', e1, hn, hm, hc, hl, hrest⟩ := hok
    cases e1
    rcases hrest with rfl | ⟨b, o, vs, hmp, rfl, hh, ho, h1, hD⟩
    ·
     omega
    refine ⟨_, ?_, .oel (off := 0) h⟩
    rw [run_indexAt_slice w T _ _ _ _ _ (by rw [hTe]; exact hT), if_pos hp, hTe, run_sizeOf hinf]
    simp [Addr.add_lit]
  ·
   cases he
 ·
  rename_i len e hT
  have hTe : P.elem T = e := by simp [Program.elem, hT]
  have hTl : P.arrayLen T = len := by simp [Program.arrayLen, hT]
  split at he
  ·
   rename_i sz0 len0 f j off
   split at he
   rotate_left
   ·
    cases he
   rename_i sz hsz
   split at he
   ·
    rename_i esz
    subst esz
    split at he
    rotate_left
    ·
     cases he
    rename_i hc
    obtain ⟨rfl, rfl, rfl⟩ := hc
    simp only [Option.some.injEq, Prod.mk.injEq] at he
    obtain ⟨rfl, rfl⟩ := he
    simp only [sizeB, Option.map_eq_some_iff] at hsz
    obtain ⟨inf, hinf, rfl⟩ := hsz
    cases hx with
    | rel b o g hi hb hr hl hd =>
     refine ⟨_, ?_, .rel (off := 0) b o g (by omega) hb hr hl hd⟩
     rw [run_indexAt_array w T _ _ _ (by rw [hTe, hTl]; exact hT), if_pos (by rw [hTl]; exact hp), hTe, run_sizeOf hinf]
     simp [Addr.add_lit]
   split at he
   rotate_left
   ·
    cases he
   rename_i hlen
   simp only [Option.map_eq_some_iff, Prod.mk.injEq] at he
   obtain ⟨fs, hfs, rfl, rfl⟩ := he
   simp only [sizeB, Option.map_eq_some_iff] at hsz
   obtain ⟨inf, hinf, rfl⟩ := hsz
   obtain ⟨c1, c2⟩ := colsSV_spec hfs
   cases hx with
   | rel b o g hj hb hr hl hd =>
    have hlj := (hl j hj).1
    have inb : ∀ (a c : Nat), a < len → c < inf.size → off + a * inf.size + c < sz0 := by
     intro a c ha hc
     have : (a + 1) * inf.size ≤ len * inf.size := Nat.mul_le_mul_right _ ha
     rw [Nat.succ_mul] at this
     omega
    have got : ∀ (a c : Nat), a < len → c < inf.size → ∃ s, (f j)[off + a * inf.size + c]? = some s := by
     intro a c ha hc
     have := inb a c ha hc
     exact ⟨_, List.getElem?_eq_getElem (by omega)⟩
    refine ⟨_, ?_, .rel (off := 0) b (o + j * sz0 + off) (fun a c => g j (off + a * inf.size + c)) (by omega) hb ⟨hr.1, fun a c ha hc => ?_⟩ (fun a ha => ⟨by simp [c1], ?_⟩) (fun a c s ha hs => ?_)⟩
    ·
     rw [run_indexAt_array w T _ _ _ (by rw [hTe, hTl]; exact hT), if_pos (by rw [hTl]; exact hp), hTe, run_sizeOf hinf]
     simp [Addr.add_lit]
    ·
     have := hr.2 j _ hj (inb a c ha hc)
     rw [show o + j * sz0 + off + a * inf.size + c = o + j * sz0 + (off + a * inf.size + c) by omega]
     exact this
    ·
     rw [List.all_eq_true]
     intro s hs
     obtain ⟨c, hc⟩ := List.mem_iff_getElem?.1 hs
     have hcl : c < inf.size := by
      have := (List.getElem?_eq_some_iff.1 hc).1
      simpa [c1] using this
     obtain ⟨s', hs'⟩ := got a c ha hcl
     obtain ⟨e1, e2⟩ := c2 c a s' hcl ha hs'
     rw [hc] at e1
     cases e1
     exact e2
    ·
     have hcl : c < inf.size := by
      have := (List.getElem?_eq_some_iff.1 hs).1
      simpa [c1] using this
     obtain ⟨s', hs'⟩ := got a c ha hcl
     obtain ⟨e1, e2⟩ := c2 c a s' hcl ha hs'
     rw [hs] at e1
     cases e1
     exact hd j _ s hj hs'
  ·
   rename_i k off
   split at he
   rotate_left
   ·
    cases he
   rename_i sz hsz
   split at he
   rotate_left
   ·
    cases he
   rename_i hlt
   simp only [Option.some.injEq, Prod.mk.injEq] at he
   obtain ⟨rfl, rfl⟩ := he
   simp only [sizeB, Option.map_eq_some_iff] at hsz
   obtain ⟨inf, hinf, rfl⟩ := hsz
   cases hx with
   | own h =>
    refine ⟨_, ?_, .own h⟩
    rw [run_indexAt_array w T _ _ _ (by rw [hTe, hTl]; exact hT), if_pos (by rw [hTl]; omega), hTe, run_sizeOf hinf]
    simp [Addr.add_lit]
  ·
   cases he
 ·
  cases he
end
structure HRes where
 pre : Prop
 res : SV
 own : List Blk
 chg : List Nat
abbrev HK := List SV → List Blk → Option HRes
structure KLaw (P : Program) (key : TypeId) (K : KT) : Prop where
 check : ∀ (w : World) (em : Bool) (q : List Int), okq K q → (Instr.checkKey em 10000 key (kv K q)).run P w = .ok () w
 find : ∀ (w : World) (q : List Int) (es : List MapEntry), okq K q → (∀ e ∈ es, ∃ q', okq K q' ∧ e.key = kv K q') →
  ∃ r, (Instr.findKey key (kv K q) es).run P w = .ok r w ∧ ((r = none ∧ ∀ e ∈ es, e.key ≠ kv K q) ∨ ∃ (j : Nat) (e : MapEntry), r = some (j, e.val) ∧ es[j]? = some e ∧ e.key = kv K q)
 stays : ∀ (w : World) (q : List Int), okq K q → (Instr.keyThatStays (kv K q) (kv K q)).run P w = .ok (kv K q) w
 inj : ∀ (q q' : List Int), okq K q → okq K q' → kv K q = kv K q' → q = q'
abbrev EffK := TypeId → Nat → Nat → (Nat → List SV) → List SV → Option (Prop × (Nat → List SV) × Bool)
inductive Ghost where
 | focus (t : Nat)
 | unfocus (k : Nat)
 | newFam (m : Nat) (T : TypeId) (Ts : List (TypeId × Nat))
 | nil (t : Nat) (T : TypeId) (sz : Nat)
 | sel (ks : List Nat)
 | fz (k : Nat)
 | keep (l : List Nat)
structure Env where
 P : Program
 C : FuncId → Option (List SV → Option (Prop × SV))
 glob : Nat → Option SV
 ng : Nat
 st : TypeId → Bool
 X : FuncId → Option EffK := fun _ => none
 fz : Nat → Bool := fun _ => false
 na : Nat := 0
 ax : Nat → Bool := fun _ => true
 av : Nat → Option Value := fun _ => none
 kt : TypeId → Option KT := fun _ => none
 Hc : FuncId → Option HK := fun _ => none
 c2 : Bool := false
 gr : Nat → List Ghost := fun _ => []
def Env.ak (E : Env) (k : Nat) : Bool := decide (k < E.na) && E.ax k
def Env.an (E : Env) (k : Nat) : Option Value := if E.ak k then E.av k else none
theorem Env.an_ak {E : Env} {k : Nat} {x : Value} (h : E.an k = some x) : E.ak k = true := by
 unfold Env.an at h
 split at h
 ·
  assumption
 ·
  cases h
theorem Env.ak_lt {E : Env} {k : Nat} (h : E.ak k = true) : k < E.na := by
 unfold Env.ak at h
 simp only [Bool.and_eq_true, decide_eq_true_eq] at h
 exact h.1
structure EnvOK (E : Env) : Prop where
 st : ∀ T, E.st T = true → E.P.stoodInHeld T = false ∧ E.P.eqGuardType E.P.depth T = false ∧ ∃ fs, E.P.underlying T = some (.struct fs) ∧ ∀ f ∈ fs.toList, f.name ≠ "_"
 kt : ∀ T K, E.kt T = some K → ∃ key elem, E.P.underlying T = some (.map key elem) ∧ KLaw E.P key K
def eqItems (eq : List SV → List SV → Option Bool) (sz : Nat) (xs ys : List SV) : Nat → Nat → Option Bool
 | 0, _ => some true
 | n + 1, i => match eq ((xs.drop (i * sz)).take sz) ((ys.drop (i * sz)).take sz) with
  | some b => match eqItems eq sz xs ys n (i + 1) with
   | some r => some (b && r)
   | none => none
  | none => none
def eqFs (P : Program) (eq : TypeId → List SV → List SV → Option Bool) (xs ys : List SV) : List Field → Option Bool
 | [] => some true
 | f :: fs => match sizeB P f.type with
  | some n => if f.offset + n ≤ xs.length ∧ f.offset + n ≤ ys.length then
    match eq f.type ((xs.drop f.offset).take n) ((ys.drop f.offset).take n) with
    | some b => match eqFs P eq xs ys fs with
     | some r => some (b && r)
     | none => none
    | none => none
   else none
  | none => none
def eqTy (E : Env) : Nat → TypeId → List SV → List SV → Option Bool
 | 0, _, _, _ => none
 | d + 1, T, xs, ys => match E.P.underlying T with
  | some .bool => match xs, ys with
   | [.bool a], [.bool b] => some (a == b)
   | _, _ => none
  | some (.int _) => match xs, ys with
   | [.int k a], [.int k' b] => if k = k' then some (decide (a = b)) else none
   | _, _ => none
  | some (.struct fs) => if E.st T then eqFs E.P (eqTy E d) xs ys fs.toList else none
  | some (.array n e) => match sizeB E.P e with
   | some sz => if xs.length = n * sz ∧ ys.length = n * sz then eqItems (eqTy E d e) sz xs ys n 0 else none
   | none => none
  | _ => none
def valOf (P : Program) (T : TypeId) (us : List Value) : Value := if (isAggB P T).getD false then .agg us.toArray else us.getD 0 undef
section
variable {E : Env} {w : World} {H : Nat → Prop} {μ : Mu}
theorem run_part {P : Program} {T : TypeId} {inf : TypeInfo} {d : TypeDesc} (hu : P.underlying T = some d) (hi : P.info? T = some inf) (us : List Value) (off : Nat) (ho : off + inf.size ≤ us.length) (h1 : aggD d = false → inf.size = 1) :
  (part T us.toArray off).run P w = .ok (valOf P T ((us.drop off).take inf.size)) w := by
 unfold valOf isAggB
 simp only [part, Sem.run_bind, run_isAgg hu, Result.andThen_ok, hu, Option.map_some, Option.getD_some]
 cases hb : aggD d with
 | true =>
  have he : us.toArray.extract off (off + inf.size) = ((us.drop off).take inf.size).toArray := by simp [List.take_drop]
  simp only [if_true, Sem.run_bind, run_sizeOf hi, Result.andThen_ok, Sem.run_pure, he]
 | false =>
  have h1' := h1 hb
  rw [h1'] at ho ⊢
  have hlt : off < us.length := by omega
  simp [List.getElem?_eq_getElem hlt]
theorem eqFields_sound (hE : EnvOK E) (m : Nat) (eq : TypeId → List SV → List SV → Option Bool)
  (ih : ∀ T xs ys b us vs, eq T xs ys = some b → us.length = xs.length → vs.length = ys.length →
   (∀ (i : Nat) (s : SV) (v : Value), xs[i]? = some s → us[i]? = some v → D w H μ s v) → (∀ (i : Nat) (s : SV) (v : Value), ys[i]? = some s → vs[i]? = some v → D w H μ s v) →
   (∃ d, E.P.underlying T = some d ∧ (aggD d = false → xs.length = 1)) ∧ (Op.equalIn m T (valOf E.P T us) (valOf E.P T vs)).run E.P w = .ok b w)
  {xs ys : List SV} {us vs : List Value} (hxl : us.length = xs.length) (hyl : vs.length = ys.length)
  (hx : ∀ (i : Nat) (s : SV) (v : Value), xs[i]? = some s → us[i]? = some v → D w H μ s v) (hy : ∀ (i : Nat) (s : SV) (v : Value), ys[i]? = some s → vs[i]? = some v → D w H μ s v) :
  ∀ (fs : List Field) (b : Bool), (∀ f ∈ fs, f.name ≠ "_") → eqFs E.P eq xs ys fs = some b → (Op.eqFields m us.toArray vs.toArray fs).run E.P w = .ok b w := by
 intro fs
 induction fs with
 | nil => intro b _ h; simp [eqFs] at h; subst h; simp [Op.eqFields]
 | cons f fs ihf =>
  intro b hn h
  simp only [eqFs] at h
  split at h
  rotate_left
  ·
   cases h
  rename_i n hsz
  split at h
  rotate_left
  ·
   cases h
  rename_i hoff
  split at h
  rotate_left
  ·
   cases h
  rename_i b1 hb1
  split at h
  rotate_left
  ·
   cases h
  rename_i r hr
  cases h
  simp only [sizeB, Option.map_eq_some_iff] at hsz
  obtain ⟨inf, hinf, rfl⟩ := hsz
  have hmem : ∀ {l : List SV} {l' : List Value}, l'.length = l.length → (∀ (i : Nat) (s : SV) (v : Value), l[i]? = some s → l'[i]? = some v → D w H μ s v) →
    ∀ (i : Nat) (s : SV) (v : Value), ((l.drop f.offset).take inf.size)[i]? = some s → ((l'.drop f.offset).take inf.size)[i]? = some v → D w H μ s v := by
   intro l l' _ hd i s v hs hv
   exact hd _ _ _ (get_drop_take hs).2 (get_drop_take hv).2
  obtain ⟨⟨d, hu, h1⟩, hrun⟩ := ih f.type _ _ b1 ((us.drop f.offset).take inf.size) ((vs.drop f.offset).take inf.size) hb1 (by simp; omega) (by simp; omega) (hmem hxl hx) (hmem hyl hy)
  have h1' : aggD d = false → inf.size = 1 := fun hb => by have := h1 hb; simp at this; omega
  have p1 := run_part (w := w) hu hinf us f.offset (by omega) h1'
  have p2 := run_part (w := w) hu hinf vs f.offset (by omega) h1'
  have hrest := ihf r (fun f hf => hn f (by simp [hf])) hr
  have hname : f.name ≠ "_" := hn f (by simp)
  simp only [Op.eqFields, if_pos hname, Sem.run_bind, p1, p2, Result.andThen_ok, hrun]
  cases b1 <;> simp [hrest, Sem.run_ite]
theorem eqTy_sound (hE : EnvOK E) : ∀ (d : Nat) (T : TypeId) (xs ys : List SV) (b : Bool) (us vs : List Value) (m : Nat), eqTy E d T xs ys = some b → us.length = xs.length → vs.length = ys.length →
  (∀ (i : Nat) (s : SV) (v : Value), xs[i]? = some s → us[i]? = some v → D w H μ s v) → (∀ (i : Nat) (s : SV) (v : Value), ys[i]? = some s → vs[i]? = some v → D w H μ s v) →
  (∃ d, E.P.underlying T = some d ∧ (aggD d = false → xs.length = 1)) ∧ (Op.equalIn (d + m) T (valOf E.P T us) (valOf E.P T vs)).run E.P w = .ok b w := by
 intro d
 induction d with
 | zero => intro T xs ys b us vs m h; simp [eqTy] at h
 | succ d ih =>
  intro T xs ys b us vs m h hxl hyl hx hy
  simp only [eqTy] at h
  have hd1 : d + 1 + m = (d + m) + 1 := by omega
  split at h
  ·
   rename_i hu
   split at h
   ·
    rename_i a b' 
    cases h
    match us, vs, hxl, hyl with
    | [u], [v], _, _ =>
     have h1 := hx 0 _ u rfl rfl
     have h2 := hy 0 _ v rfl rfl
     cases h1; cases h2
     refine ⟨⟨_, hu, fun _ => rfl⟩, ?_⟩
     simp only [valOf, isAggB, hu, Option.map_some, aggD, Option.getD_some, Bool.false_eq_true, if_false, List.getD_cons_zero]
     rw [hd1, run_equalIn_bool' w _ T _ _ hu]
   ·
    cases h
  ·
   rename_i k0 hu
   split at h
   ·
    rename_i k a k' b'
    split at h
    ·
     rename_i hk
     cases h
     subst hk
     match us, vs, hxl, hyl with
     | [u], [v], _, _ =>
      have h1 := hx 0 _ u rfl rfl
      have h2 := hy 0 _ v rfl rfl
      cases h1; cases h2
      refine ⟨⟨_, hu, fun _ => rfl⟩, ?_⟩
      simp only [valOf, isAggB, hu, Option.map_some, aggD, Option.getD_some, Bool.false_eq_true, if_false, List.getD_cons_zero]
      rw [hd1, run_equalIn_int w _ T _ _ _ _ hu]
      rfl
    ·
     cases h
   ·
    cases h
  ·
   rename_i fs hu
   split at h
   ·
    rename_i hst
    obtain ⟨s1, s2, fs', hu', s3⟩ := hE.st T hst
    rw [hu] at hu'
    cases hu'
    refine ⟨⟨_, hu, fun h => by simp [aggD] at h⟩, ?_⟩
    have hf : E.P.fieldsOf T = fs := by simp [Program.fieldsOf, hu]
    have := eqFields_sound (w := w) (H := H) (μ := μ) hE (d + m) (eqTy E d) (fun T xs ys b us vs he h1 h2 h3 h4 => ih T xs ys b us vs m he h1 h2 h3 h4) hxl hyl hx hy fs.toList b s3 h
    simp only [valOf, isAggB, hu, Option.map_some, aggD, Option.getD_some, if_true]
    rw [hd1, run_equalIn_struct w _ T _ _ (by rw [hf]; exact hu) s1, hf]
    exact this
   ·
    cases h
  ·
   rename_i n e hu
   split at h
   rotate_left
   ·
    cases h
   rename_i sz hsz
   split at h
   rotate_left
   ·
    cases h
   rename_i hlen
   simp only [sizeB, Option.map_eq_some_iff] at hsz
   obtain ⟨inf, hinf, rfl⟩ := hsz
   refine ⟨⟨_, hu, fun h => by simp [aggD] at h⟩, ?_⟩
   have hc : E.P.cellsOf e = inf.size := by simp [Program.cellsOf, hinf]
   simp only [valOf, isAggB, hu, Option.map_some, aggD, Option.getD_some, if_true]
   rw [hd1, run_equalIn_array w (d + m) _ _ hu hinf, hc]
   have key : ∀ (n0 i : Nat) (b : Bool), i + n0 = n → eqItems (eqTy E d e) inf.size xs ys n0 i = some b → (Op.eqItems (d + m) e inf.size us.toArray vs.toArray (List.range' i n0)).run E.P w = .ok b w := by
    intro n0
    induction n0 with
    | zero => intro i b _ h; simp [eqItems] at h; subst h; simp [Op.eqItems]
    | succ n0 ihn =>
     intro i b hi h
     simp only [eqItems] at h
     split at h
     rotate_left
     ·
      cases h
     rename_i b1 hb1
     split at h
     rotate_left
     ·
      cases h
     rename_i r hr
     cases h
     have hmul : i * inf.size + inf.size ≤ n * inf.size := by rw [← Nat.succ_mul]; exact Nat.mul_le_mul_right _ (by omega)
     have hmem : ∀ {l : List SV} {l' : List Value}, (∀ (i : Nat) (s : SV) (v : Value), l[i]? = some s → l'[i]? = some v → D w H μ s v) →
       ∀ (j : Nat) (s : SV) (v : Value), ((l.drop (i * inf.size)).take inf.size)[j]? = some s → ((l'.drop (i * inf.size)).take inf.size)[j]? = some v → D w H μ s v :=
      fun hd j s v hs hv => hd _ _ _ (get_drop_take hs).2 (get_drop_take hv).2
     obtain ⟨⟨dd, hud, h1⟩, hrun⟩ := ih e _ _ b1 ((us.drop (i * inf.size)).take inf.size) ((vs.drop (i * inf.size)).take inf.size) m hb1 (by simp; omega) (by simp; omega) (hmem hx) (hmem hy)
     have h1' : aggD dd = false → inf.size = 1 := fun hb => by have := h1 hb; simp at this; omega
     have p1 := run_part (w := w) hud hinf us (i * inf.size) (by omega) h1'
     have p2 := run_part (w := w) hud hinf vs (i * inf.size) (by omega) h1'
     have hrest := ihn (i + 1) r (by omega) hr
     simp only [List.range'_succ, Op.eqItems, Sem.run_bind, p1, p2, Result.andThen_ok, hrun]
     cases b1 <;> simp [hrest, Sem.run_ite]
   rw [List.range_eq_range']
   exact key n 0 b (by omega) h
  ·
   cases h
def evBinE (E : Env) (op : BinOp) (T : TypeId) (x y : SV) : Option (Prop × SV) :=
 match op, x, y with
 | .eql, .agg xs, .agg ys => if E.st T then (eqTy E 8 T xs ys).map fun b => (True, .bool b) else none
 | .neq, .agg xs, .agg ys => if E.st T then (eqTy E 8 T xs ys).map fun b => (True, .bool (!b)) else none
 | .eql, .bool a, .bool b => match E.P.underlying T with
  | some .bool => some (True, .bool (a == b))
  | _ => none
 | .neq, .bool a, .bool b => match E.P.underlying T with
  | some .bool => some (True, .bool (a != b))
  | _ => none
 | .eql, .sl _ n _ _, .con (.slice none 0 0) => match E.P.underlying T with
  | some (.slice _) => some (True, .ub (n = 0) True)
  | _ => none
 | .neq, .sl _ n _ _, .con (.slice none 0 0) => match E.P.underlying T with
  | some (.slice _) => some (True, .ub True (n = 0))
  | _ => none
 | .eql, .con (.slice none 0 0), .con (.slice none 0 0) => match E.P.underlying T with
  | some (.slice _) => some (True, .bool true)
  | _ => none
 | .neq, .con (.slice none 0 0), .con (.slice none 0 0) => match E.P.underlying T with
  | some (.slice _) => some (True, .bool false)
  | _ => none
 | .eql, .fp ok _ _ _, .con (.pointer none) => match E.P.underlying T with
  | some (.pointer _) => some (True, .bool (!ok))
  | _ => none
 | .neq, .fp ok _ _ _, .con (.pointer none) => match E.P.underlying T with
  | some (.pointer _) => some (True, .bool ok)
  | _ => none
 | .and, .int k a, .int k' b => if k = k' then some (b = 1, .int k (a % 2)) else none
 | .shl, .int k a, .int _ b => some (0 ≤ b ∧ b.toNat ≤ k.bits ∧ inK k (a * 2 ^ b.toNat), .int k (a * 2 ^ b.toNat))
 | .shr, .int k a, .int _ b => some (0 ≤ b ∧ b.toNat ≤ k.bits, .int k (a / 2 ^ b.toNat))
 | op, x, y => evBin op x y
theorem and_one (k : IntKind) (a : Int) : k.wrap ((BitVec.ofInt k.bits a &&& BitVec.ofInt k.bits 1).toNat : Int) = a % 2 := by
 have h2 : (BitVec.ofInt k.bits a &&& BitVec.ofInt k.bits 1).toNat = (a % 2).toNat := by
  have h1 : (BitVec.ofInt k.bits 1).toNat = 1 := by cases k <;> rfl
  rw [BitVec.toNat_and, h1, Nat.and_one_is_mod, BitVec.toNat_ofInt]
  have hd : (2 : Int) ∣ ((2 ^ k.bits : Nat) : Int) := by cases k <;> decide
  have h0 : 0 ≤ a % ((2 ^ k.bits : Nat) : Int) := Int.emod_nonneg _ (by cases k <;> decide)
  have h3 : (a % ((2 ^ k.bits : Nat) : Int)) % 2 = a % 2 := Int.emod_emod_of_dvd a hd
  omega
 rw [h2]
 have h0 : 0 ≤ a % 2 := Int.emod_nonneg _ (by decide)
 have h1 : a % 2 < 2 := Int.emod_lt_of_pos _ (by decide)
 rw [Int.toNat_of_nonneg h0]
 exact wrap_inK (by cases k <;> simp only [inK] <;> omega)
theorem valOf_agg {T : TypeId} {fs : Array Field} (hu : E.P.underlying T = some (.struct fs)) (us : List Value) : valOf E.P T us = .agg us.toArray := by
 simp [valOf, isAggB, hu, aggD]
theorem run_eq_ptr_nil {P : Program} {w : World} {T e : TypeId} (hu : P.underlying T = some (.pointer e)) (p : Option Addr) : (Op.equalIn 10000 T (.pointer p) (.pointer none)).run P w = .ok p.isNone w := by
 rw [Op.equalIn, Sem.run_bind, run_underlying hu, Result.andThen_ok]
 cases p <;> rfl
theorem run_eq_slice_nil {P : Program} {w : World} {T e : TypeId} (hu : P.underlying T = some (.slice e)) (a : Option Addr) (n m : Nat) : (Op.equalIn 10000 T (.slice a n m) (.slice none 0 0)).run P w = .ok a.isNone w := by
 rw [Op.equalIn, Sem.run_bind, run_underlying hu, Result.andThen_ok]
 cases a <;> rfl
theorem run_eql_nil {P : Program} {w : World} {T e : TypeId} (hu : P.underlying T = some (.slice e)) (xo yo : Operand) (a : Option Addr) (n m : Nat) : (do eqGuard .eql T xo yo (.slice a n m) (.slice none 0 0); binOp .eql T (.slice a n m) (.slice none 0 0) : Sem Value).run P w = .ok (.bool a.isNone) w := by
 rw [show (do eqGuard .eql T xo yo (.slice a n m) (.slice none 0 0); binOp .eql T (.slice a n m) (.slice none 0 0) : Sem Value) = (do pure (); (do let b ← Op.equalIn 10000 T (.slice a n m) (.slice none 0 0); pure (.bool b) : Sem Value)) from rfl]
 simp only [Sem.run_bind, Sem.run_pure, Result.andThen_ok, run_eq_slice_nil hu]
theorem run_neq_nil {P : Program} {w : World} {T e : TypeId} (hu : P.underlying T = some (.slice e)) (xo yo : Operand) (a : Option Addr) (n m : Nat) : (do eqGuard .neq T xo yo (.slice a n m) (.slice none 0 0); binOp .neq T (.slice a n m) (.slice none 0 0) : Sem Value).run P w = .ok (.bool (!a.isNone)) w := by
 rw [show (do eqGuard .neq T xo yo (.slice a n m) (.slice none 0 0); binOp .neq T (.slice a n m) (.slice none 0 0) : Sem Value) = (do pure (); (do let b ← Op.equalIn 10000 T (.slice a n m) (.slice none 0 0); pure (.bool (!b)) : Sem Value)) from rfl]
 simp only [Sem.run_bind, Sem.run_pure, Result.andThen_ok, run_eq_slice_nil hu]
theorem binE_sound (hE : EnvOK E) {op : BinOp} {T : TypeId} {xo yo : Operand} {x y s : SV} {v u : Value} {pre : Prop} (hx : D w H μ x v) (hy : D w H μ y u) (he : evBinE E op T x y = some (pre, s)) (hp : pre) :
  ∃ r, (do eqGuard op T xo yo v u; binOp op T v u).run E.P w = .ok r w ∧ D w H μ s r := by
 have agg : ∀ {xs ys : List SV} {v u : Value} {b : Bool}, E.st T = true → eqTy E 8 T xs ys = some b → D w H μ (.agg xs) v → D w H μ (.agg ys) u →
   ∃ us vs : List Value, v = .agg us.toArray ∧ u = .agg vs.toArray ∧ (Op.equalIn 10000 T v u).run E.P w = .ok b w := by
  intro xs ys v u b hst h hx hy
  cases hx with
  | agg us hxl hxd =>
   cases hy with
   | agg vs hyl hyd =>
    obtain ⟨_, hrun⟩ := eqTy_sound (w := w) (H := H) (μ := μ) hE 8 T xs ys b us vs 9992 h hxl hyl hxd hyd
    obtain ⟨s1, s2, fs, hu, s3⟩ := hE.st T hst
    rw [valOf_agg hu, valOf_agg hu] at hrun
    exact ⟨us, vs, rfl, rfl, hrun⟩
 unfold evBinE at he
 split at he
 ·
  rename_i xs ys
  split at he
  rotate_left
  ·
   cases he
  rename_i hst
  simp only [Option.map_eq_some_iff, Prod.mk.injEq] at he
  obtain ⟨b, hb, rfl, rfl⟩ := he
  obtain ⟨us, vs, rfl, rfl, hrun⟩ := agg hst hb hx hy
  refine ⟨_, ?_, .bool⟩
  rw [Sem.run_bind, run_eqGuard_agg w _ _ _ _ _ _ (hE.st T hst).2.1, Result.andThen_ok, run_eql_struct, hrun, Result.andThen_ok]
 ·
  rename_i xs ys
  split at he
  rotate_left
  ·
   cases he
  rename_i hst
  simp only [Option.map_eq_some_iff, Prod.mk.injEq] at he
  obtain ⟨b, hb, rfl, rfl⟩ := he
  obtain ⟨us, vs, rfl, rfl, hrun⟩ := agg hst hb hx hy
  refine ⟨_, ?_, .bool⟩
  rw [Sem.run_bind, run_eqGuard_agg w _ _ _ _ _ _ (hE.st T hst).2.1, Result.andThen_ok, run_neq_struct, hrun, Result.andThen_ok]
 ·
  split at he
  ·
   rename_i hu
   cases he; cases hx; cases hy
   refine ⟨_, ?_, .bool⟩
   simp only [eqGuard_at_bool, Sem.run_bind, Sem.run_pure, Result.andThen_ok, binOp, Op.equal, Op.maxDepth]
   rw [run_equalIn_bool' w 9999 T _ _ hu]
   rfl
  ·
   cases he
 ·
  split at he
  ·
   rename_i hu
   cases he; cases hx; cases hy
   refine ⟨_, ?_, .bool⟩
   simp only [eqGuard_at_bool, Sem.run_bind, Sem.run_pure, Result.andThen_ok, binOp, Op.equal, Op.maxDepth]
   rw [run_equalIn_bool' w 9999 T _ _ hu]
   rfl
  ·
   cases he
 ·
  split at he
  rotate_left
  ·
   cases he
  rename_i e hu
  cases he
  cases hy
  cases hx with
  | sl a b o m g hm hx hc hrow hl hd => exact ⟨_, run_eql_nil hu xo yo _ _ _, .ub (fun e => Nat.eq_zero_of_not_pos (fun h0 => by rw [(hrow h0).1] at e; cases e)) (fun _ => trivial)⟩
 ·
  split at he
  rotate_left
  ·
   cases he
  rename_i e hu
  cases he
  cases hy
  cases hx with
  | sl a b o m g hm hx hc hrow hl hd => exact ⟨_, run_neq_nil hu xo yo _ _ _, .ub (fun _ => trivial) (fun e => Nat.eq_zero_of_not_pos (fun h0 => by rw [(hrow h0).1] at e; cases e))⟩
 ·
  split at he
  rotate_left
  ·
   cases he
  rename_i e hu
  cases he
  cases hy
  cases hx
  exact ⟨_, run_eql_nil hu xo yo _ _ _, .bool⟩
 ·
  split at he
  rotate_left
  ·
   cases he
  rename_i e hu
  cases he
  cases hy
  cases hx
  exact ⟨_, run_neq_nil hu xo yo _ _ _, .bool⟩
 ·
  rename_i ok k i off
  split at he
  rotate_left
  ·
   cases he
  rename_i e hu
  cases he
  cases hy
  cases hx with
  | fp h =>
  refine ⟨_, ?_, .bool⟩
  have hv : ∃ p, v = .pointer p ∧ p.isNone = !ok := by
   cases ok with
   | true =>
    simp only [if_true] at h
    obtain ⟨_, _, b, _, _, rfl⟩ := h
    exact ⟨_, rfl, rfl⟩
   | false =>
    simp only [Bool.false_eq_true, if_false] at h
    exact ⟨none, h, rfl⟩
  obtain ⟨p, rfl, hp⟩ := hv
  rw [show (do eqGuard .eql T xo yo (Value.pointer p) (Value.pointer none); binOp .eql T (Value.pointer p) (Value.pointer none) : Sem Value) = (do pure (); (do let b ← Op.equalIn 10000 T (.pointer p) (.pointer none); pure (.bool b) : Sem Value)) from rfl]
  simp only [Sem.run_bind, Sem.run_pure, Result.andThen_ok, run_eq_ptr_nil hu, hp]
 ·
  rename_i ok k i off
  split at he
  rotate_left
  ·
   cases he
  rename_i e hu
  cases he
  cases hy
  cases hx with
  | fp h =>
  refine ⟨_, ?_, .bool⟩
  have hv : ∃ p, v = .pointer p ∧ p.isNone = !ok := by
   cases ok with
   | true =>
    simp only [if_true] at h
    obtain ⟨_, _, b, _, _, rfl⟩ := h
    exact ⟨_, rfl, rfl⟩
   | false =>
    simp only [Bool.false_eq_true, if_false] at h
    exact ⟨none, h, rfl⟩
  obtain ⟨p, rfl, hp⟩ := hv
  rw [show (do eqGuard .neq T xo yo (Value.pointer p) (Value.pointer none); binOp .neq T (Value.pointer p) (Value.pointer none) : Sem Value) = (do pure (); (do let b ← Op.equalIn 10000 T (.pointer p) (.pointer none); pure (.bool (!b)) : Sem Value)) from rfl]
  simp only [Sem.run_bind, Sem.run_pure, Result.andThen_ok, run_eq_ptr_nil hu, hp]
  simp
 ·
  rename_i k a k' b
  split at he
  rotate_left
  ·
   cases he
  rename_i hk
  subst hk
  simp only [Option.some.injEq, Prod.mk.injEq] at he
  obtain ⟨rfl, rfl⟩ := he
  cases hx; cases hy
  subst hp
  refine ⟨_, ?_, .int⟩
  rw [show (do eqGuard .and T xo yo (Value.int k a) (Value.int k 1); binOp .and T (Value.int k a) (Value.int k 1) : Sem Value) = (do pure (); Op.intBits .and k a 1) from by simp [eqGuard, binOp]]
  simp only [Op.intBits, Sem.run_bind, Sem.run_pure, Result.andThen_ok, and_one]
 ·
  rename_i k a k' b
  simp only [Option.some.injEq, Prod.mk.injEq] at he
  obtain ⟨rfl, rfl⟩ := he
  cases hx; cases hy
  obtain ⟨h0, h1, h2⟩ := hp
  refine ⟨_, ?_, .int⟩
  have hn : ¬ b < 0 := by omega
  have hm : min b.toNat k.bits = b.toNat := by omega
  rw [show (do eqGuard .shl T xo yo (Value.int k a) (Value.int k' b); binOp .shl T (Value.int k a) (Value.int k' b) : Sem Value) = (do pure (); Op.shift .shl k a k' b) from by simp [eqGuard, binOp]]
  simp only [Op.shift, if_neg hn, hm, Sem.run_bind, Sem.run_pure, Result.andThen_ok, wrap_inK h2]
 ·
  rename_i k a k' b
  simp only [Option.some.injEq, Prod.mk.injEq] at he
  obtain ⟨rfl, rfl⟩ := he
  cases hx; cases hy
  obtain ⟨h0, h1⟩ := hp
  refine ⟨_, ?_, .int⟩
  have hn : ¬ b < 0 := by omega
  have hm : min b.toNat k.bits = b.toNat := by omega
  have hd : a.fdiv (2 ^ b.toNat) = a / 2 ^ b.toNat := Int.fdiv_eq_ediv_of_nonneg _ (Int.pow_nonneg (by decide))
  rw [show (do eqGuard .shr T xo yo (Value.int k a) (Value.int k' b); binOp .shr T (Value.int k a) (Value.int k' b) : Sem Value) = (do pure (); Op.shift .shr k a k' b) from by simp [eqGuard, binOp]]
  simp only [Op.shift, if_neg hn, hm, Sem.run_bind, Sem.run_pure, Result.andThen_ok, hd]
 ·
  exact bin_sound hx hy he hp
end
def fillSV (place : Nat → Option (Nat × Nat)) (cells : List SV) : List (Nat × SV) → Option (List SV)
 | [] => some cells
 | (i, s) :: rest => match place i, s.cells with
  | some (off, size), some cs => if cs.length = size ∧ off + size ≤ cells.length then fillSV place (over cells off cs) rest else none
  | _, _ => none
def zeroSV (P : Program) (T : TypeId) : Option (List SV) := match P.info? T with
 | some i => i.zero.map fun z => z.cells.toList.map ofCell
 | none => none
def placeB (P : Program) (T : TypeId) : Option (Nat → Option (Nat × Nat)) := match P.underlying T with
 | some (.struct fs) => if fs.toList.all (fun f => (sizeB P f.type).isSome) then some fun i => (fs[i]?).map fun f => (f.offset, (sizeB P f.type).getD 0) else none
 | some (.array _ e) => (sizeB P e).map fun sz => fun i => some (i * sz, sz)
 | _ => none
def evBuild (P : Program) (T : TypeId) (parts : List (Nat × SV)) : Option (Prop × SV) := do
 let z ← zeroSV P T
 let pl ← placeB P T
 let cs ← fillSV pl z parts
 some (True, .agg cs)
section
variable {P : Program} {w : World} {H : Nat → Prop} {μ : Mu}
def DL (w : World) (H : Nat → Prop) (μ : Mu) (cs : List SV) (vs : List Value) : Prop :=
 vs.length = cs.length ∧ ∀ (i : Nat) (s : SV) (v : Value), cs[i]? = some s → vs[i]? = some v → D w H μ s v
theorem DL.over {cs us : List SV} {vs xs : List Value} {off : Nat} (h : DL w H μ cs vs) (k : DL w H μ us xs) (ho : off + us.length ≤ cs.length) : DL w H μ (over cs off us) (over vs off xs) := by
 refine ⟨by rw [over_length, over_length]; exact h.1, fun i s v hs hv => ?_⟩
 rw [over_get _ _ _ _ ho] at hs
 rw [over_get _ _ _ _ (by rw [k.1, h.1]; exact ho), k.1] at hv
 split at hs
 ·
  rename_i hc
  rw [if_pos hc] at hv
  exact k.2 _ _ _ hs hv
 ·
  rename_i hc
  rw [if_neg hc] at hv
  exact h.2 _ _ _ hs hv
theorem foldl_over (vs : List Value) : ∀ (k off : Nat) (cs : List Value), off + k + vs.length ≤ cs.length → (vs.zipIdx k).foldl (fun (cs : Array Value) (p : Value × Nat) => cs.setIfInBounds (off + p.2) p.1) cs.toArray = (over cs (off + k) vs).toArray := by
 induction vs with
 | nil => intro k off cs h; rw [over_nil _ _ (by simpa using h)]; rfl
 | cons v vs ih =>
  intro k off cs h
  simp only [List.length_cons] at h
  simp only [List.zipIdx_cons, List.foldl_cons]
  have : cs.toArray.setIfInBounds (off + k) v = (cs.set (off + k) v).toArray := by simp
  rw [this, ih _ _ _ (by rw [List.length_set]; omega), over_cons _ _ _ _ (by omega)]
  rfl
theorem fill_sound {place : Nat → Option (Nat × Nat)} : ∀ (parts : List (Nat × SV)) (cs out : List SV) (vs : List Value) (ps : List (Nat × Value)), DL w H μ cs vs → fillSV place cs parts = some out → ps.length = parts.length →
    (∀ (i j : Nat) (s : SV), parts[i]? = some (j, s) → ∃ v, ps[i]? = some (j, v) ∧ D w H μ s v) → ∃ us, Instr.fill place vs.toArray ps = some (List.toArray us) ∧ DL w H μ out us := by
  intro parts
  induction parts with
  | nil =>
    intro cs out vs ps hD h hl _
    cases ps with
    | nil => simp [fillSV] at h; subst h; exact ⟨vs, rfl, hD⟩
    | cons _ _ => simp at hl
  | cons p parts ih =>
    intro cs out vs ps hD h hl hp
    obtain ⟨i, s⟩ := p
    cases ps with
    | nil => simp at hl
    | cons q ps =>
      obtain ⟨v, e, hd⟩ := hp 0 i s rfl
      simp only [List.getElem?_cons_zero, Option.some.injEq] at e
      subst e
      simp only [fillSV] at h
      split at h
      rotate_left
      · cases h
      rename_i off size us hpl hcs
      split at h
      rotate_left
      · cases h
      rename_i hc
      obtain ⟨rfl, hoff⟩ := hc
      obtain ⟨hvl, hvd⟩ := hd.cells hcs
      have hD' := hD.over (xs := v.cells.toList) ⟨hvl, hvd⟩ hoff
      obtain ⟨us', e1, e2⟩ := ih _ out _ ps hD' h (by simpa using hl) (fun k j t ht => by simpa using hp (k + 1) j t (by simpa using ht))
      refine ⟨us', ?_, e2⟩
      simp only [Instr.fill, hpl]
      have hsz : v.cells.size = us.length := by simpa using hvl
      rw [hsz]
      have hb : ¬ (off + us.length > vs.toArray.size) := by simp [hD.1]; omega
      simp only [ne_eq, not_true_eq_false, decide_false, decide_eq_false hb, Bool.or_self, Bool.false_eq_true, if_false]
      have : (v.cells.zipIdx.foldl (fun cs x => cs.setIfInBounds (off + x.2) x.1) vs.toArray) = (over vs off v.cells.toList).toArray := by
        have := foldl_over v.cells.toList 0 off vs (by have q := hD.1; have q2 : v.cells.toList.length = us.length := by simpa using hvl
                                                       omega)
        rw [← Array.foldl_toList]
        simpa using this
      rw [this]
      exact e1
theorem run_mapM_sizes (fs : List Field) (h : ∀ f ∈ fs, (sizeB P f.type).isSome = true) :
  (fs.mapM fun (f : Field) => (do pure (f.offset, ← sizeOf f.type) : Sem (Nat × Nat))).run P w = .ok (fs.map fun f => (f.offset, (sizeB P f.type).getD 0)) w := by
 induction fs with
 | nil => simp
 | cons f fs ih =>
  have h0 := h f (by simp)
  have ih' := ih (fun f hf => h f (by simp [hf]))
  obtain ⟨n, hn⟩ := Option.isSome_iff_exists.1 h0
  have hs := hn
  simp only [sizeB, Option.map_eq_some_iff] at hs
  obtain ⟨inf, hinf, rfl⟩ := hs
  simp only [List.mapM_cons, Sem.run_bind, run_sizeOf hinf, Result.andThen_ok, Sem.run_pure, ih', List.map_cons, hn, Option.getD_some]
theorem zero_sound {T : TypeId} {z : List SV} (h : zeroSV P T = some z) : ∃ (inf : TypeInfo) (zv : Value), P.info? T = some inf ∧ inf.zero = some zv ∧ z = zv.cells.toList.map ofCell ∧ DL w H μ z zv.cells.toList := by
 unfold zeroSV at h
 split at h
 ·
  rename_i inf hi
  simp only [Option.map_eq_some_iff] at h
  obtain ⟨zv, hz, rfl⟩ := h
  exact ⟨inf, zv, hi, hz, rfl, by simp, D_map_ofCell _⟩
 ·
  cases h
theorem build_sound {T : TypeId} {parts : List (Nat × SV)} {ps : List (Nat × Value)} {s : SV} {pre : Prop} (he : evBuild P T parts = some (pre, s)) (hl : ps.length = parts.length)
  (hp : ∀ (i j : Nat) (s : SV), parts[i]? = some (j, s) → ∃ v, ps[i]? = some (j, v) ∧ D w H μ s v) : ∃ r, (Instr.build T ps.toArray).run P w = .ok r w ∧ D w H μ s r := by
 simp only [evBuild, Option.bind_eq_bind, Option.bind_eq_some_iff, Option.some.injEq, Prod.mk.injEq] at he
 obtain ⟨z, hz, pl, hpl, cs, hcs, rfl, rfl⟩ := he
 obtain ⟨inf, zv, hi, hzv, rfl, hzD⟩ := zero_sound (w := w) (H := H) (μ := μ) hz
 have key : ∀ place, place = pl → ∃ us : List Value, Instr.fill place zv.cells ps = some us.toArray ∧ DL w H μ cs us := by
  intro place e
  subst e
  obtain ⟨us, e1, e2⟩ := fill_sound parts _ cs _ ps hzD hcs hl hp
  exact ⟨us, by simpa using e1, e2⟩
 unfold placeB at hpl
 split at hpl
 ·
  rename_i fs hu
  split at hpl
  rotate_left
  ·
   cases hpl
  rename_i hall
  simp only [Option.some.injEq] at hpl
  have hm : (fs.mapM fun (f : Field) => (do pure (f.offset, ← sizeOf f.type) : Sem (Nat × Nat))).run P w = .ok (fs.map fun f => (f.offset, (sizeB P f.type).getD 0)) w := by
   rw [Array.mapM_eq_mapM_toList, Sem.run_map, run_mapM_sizes fs.toList (fun f hf => by simpa using List.all_eq_true.1 hall f hf)]
   simp only [Result.andThen_ok]
   congr 1
   apply Array.ext'
   simp
  have hpeq : (fun i => (fs.map fun f => (f.offset, (sizeB P f.type).getD 0))[i]?) = pl := by
   rw [← hpl]; funext i; simp
  obtain ⟨us, hf, hD⟩ := key _ hpeq
  refine ⟨.agg us.toArray, ?_, .agg us hD.1 hD.2⟩
  simp only [Instr.build, Sem.run_bind, run_zeroValue hi hzv, Result.andThen_ok, run_underlying hu, hm, hf, Sem.run_pure]
 ·
  rename_i n e hu
  simp only [Option.map_eq_some_iff] at hpl
  obtain ⟨sz, hsz, hpl⟩ := hpl
  simp only [sizeB, Option.map_eq_some_iff] at hsz
  obtain ⟨inf', hi', rfl⟩ := hsz
  obtain ⟨us, hf, hD⟩ := key _ hpl
  refine ⟨.agg us.toArray, ?_, .agg us hD.1 hD.2⟩
  simp only [Instr.build, Sem.run_bind, run_zeroValue hi hzv, Result.andThen_ok, run_underlying hu, run_sizeOf hi', hf, Sem.run_pure]
 ·
  cases hpl
def evNew (P : Program) (own : List Blk) (ρ : Operand → Option SV) (op : Op) : Option (Prop × SV × Blk) :=
 match op with
 | .alloc T => (zeroSV P T).bind fun z => if z.all SV.isCell then some (True, .own own.length 0, .cells T z) else none
 | .box T x => (ρ x).bind fun s => s.cells.bind fun cs => if cs.all SV.isCell then some (True, .own own.length 0, .cells T cs) else none
 | .buildSlice T 0 ⟨[]⟩ => (isSliceB P T).bind fun e => (sizeB P e).map fun sz => (True, .osl own.length, .row e sz 0 (fun _ => []) (some 0))
 | .buildSlice T n parts => (isSliceB P T).bind fun e => (sizeB P e).bind fun sz => (zeroSV P e).bind fun z =>
   (parts.toList.mapM fun (p : Nat × Operand) => (ρ p.2).bind fun s => s.cells.map fun cs => (p.1, cs)).bind fun ps =>
    if ps.map (·.1) = List.range n ∧ 0 < n ∧ 0 < sz ∧ n * sz ≤ 16777216 ∧ z.length = sz ∧ z.all SV.isCell ∧ ps.all (fun p => p.2.all SV.isCell && p.2.all SV.pure && decide (p.2.length = sz)) then
     some (True, .osl own.length, .row e sz n (fun i => (ps.map (·.2)).getD i []) (some n))
    else none
 | .makeSlice T l c => (isSliceB P T).bind fun e => (P.info? e).bind fun inf => (zeroSV P e).bind fun z =>
   match ρ l, ρ c with
   | some (.int _ n), some (.int _ m) => if z.length = inf.size ∧ z.all SV.isCell ∧ z.all SV.pure ∧ 0 < inf.size then
     some (0 ≤ n ∧ n ≤ m ∧ (inf.bytes : Int) * m ≤ 281474976710656 ∧ m ≤ 9223372036854775807, .osl own.length, .row e inf.size n.toNat (fun _ => z) (some m.toNat)) else none
   | _, _ => none
 | _ => none
structure After (B0 : Nat) (X A : Nat → Prop) (w w' : World) (μ μ' : Mu) (own' : List Blk) : Prop where
 own : Own B0 X A w' μ' own'
 fr : Fr B0 X w w'
 keeps : Keeps w w' (held A μ) (held A μ') μ μ'
theorem one_of_all {cs : List SV} {vs : List Value} (h : DL w H μ cs vs) (hc : cs.all SV.isCell = true) : ∀ v ∈ vs, v.oneCell' = true := by
 intro v hv
 obtain ⟨i, hi, e⟩ := List.mem_iff_getElem.1 hv
 have hlt : i < cs.length := by rw [← h.1]; exact hi
 have hd := h.2 i cs[i] vs[i] (List.getElem?_eq_getElem hlt) (List.getElem?_eq_getElem hi)
 rw [← e]
 exact hd.one (List.all_eq_true.1 hc _ (List.getElem_mem hlt))
variable {B0 : Nat} {X A : Nat → Prop} {own ownN : List Blk}
theorem new_cells (hO : Own B0 X A w μ ownN) (hB : B0 ≤ w.heap.size) (hk : μ own.length = none) {T : TypeId} {cs : List SV} {vs : List Value} (hbl : ownN[own.length]? = some (.cells T cs)) (hD : DL w (held A μ) μ cs vs) (h1 : cs.all SV.isCell = true) :
  ∃ μ', After B0 X A w (w.alloc (.cells vs.toArray T)) μ μ' ownN ∧ (∀ j, j ≠ own.length → μ' j = μ j) ∧ D (w.alloc (.cells vs.toArray T)) (held A μ') μ' (.own own.length 0) (.pointer (some ⟨w.heap.size, 0, none⟩)) := by
 obtain ⟨o1, o2⟩ := own_new hO hB hk hbl (.cells vs.toArray T) (.pointer (some ⟨w.heap.size, 0, none⟩)) (fun b h => (has_ptr.1 h).symm) (fun μ' e hkp => by
  refine ⟨w.heap.size, vs, rfl, heap_alloc_new w _, hD.1, one_of_all hD h1, fun i s v hs hv => (hD.2 i s v hs hv).keep hkp⟩)
 exact ⟨_, ⟨o1, Fr.alloc _ hB, o2⟩, fun j hj => by simp [Mu.set, hj], .own (by simp [Mu.set])⟩
theorem new_row (hO : Own B0 X A w μ ownN) (hB : B0 ≤ w.heap.size) (hk : μ own.length = none) {T : TypeId} {sz n m : Nat} {f : Nat → List SV} {vs : List Value} (hbl : ownN[own.length]? = some (.row T sz n f (some m))) (hn : n ≤ m) (hm : m ≤ maxLen)
  (hl : ∀ i, i < n → (f i).length = sz ∧ (f i).all SV.pure = true) (hlen : m * sz ≤ vs.length) (h1 : ∀ v ∈ vs, v.oneCell' = true) (hD : ∀ (i j : Nat) (s : SV) (v : Value), i < n → (f i)[j]? = some s → vs[i * sz + j]? = some v → D w (held A μ) μ s v) :
  ∃ μ', After B0 X A w (w.alloc (.cells vs.toArray T)) μ μ' ownN ∧ (∀ j, j ≠ own.length → μ' j = μ j) ∧ D (w.alloc (.cells vs.toArray T)) (held A μ') μ' (.osl own.length) (.slice (some ⟨w.heap.size, 0, none⟩) n m) := by
 obtain ⟨o1, o2⟩ := own_new hO hB hk hbl (.cells vs.toArray T) (.slice (some ⟨w.heap.size, 0, none⟩) n m) (by
   intro b hb
   rcases Nat.eq_zero_or_pos m with h0 | h0
   ·
    subst h0; exact absurd hb has_zero
   ·
    exact (has_pos_iff h0).1 hb) (fun μ' e hkp => by
  rcases Nat.eq_zero_or_pos m with h0 | h0
  ·
   exact ⟨_, m, rfl, hn, hm, .inr rfl, hl, .inl h0⟩
  refine ⟨_, m, rfl, hn, hm, .inr rfl, hl, .inr ⟨w.heap.size, 0, vs, h0, rfl, heap_alloc_new w _, by omega, h1, fun i j s v hi hs hv => (hD i j s v hi hs (by simpa using hv)).keep hkp⟩⟩)
 exact ⟨_, ⟨o1, Fr.alloc _ hB, o2⟩, fun j hj => by simp [Mu.set, hj], .osl (by simp [Mu.set])⟩
end
section
variable {P : Program} {w : World} {μ : Mu} {B0 : Nat} {X A : Nat → Prop} {own ownN : List Blk}
theorem mapM_get {α β : Type} {f : α → Option β} : ∀ {l : List α} {r : List β}, l.mapM f = some r → r.length = l.length ∧ ∀ (i : Nat) (x : α), l[i]? = some x → ∃ y, r[i]? = some y ∧ f x = some y := by
 intro l
 induction l with
 | nil => intro r h; simp at h; subst h; exact ⟨rfl, fun i x h => by simp at h⟩
 | cons a l ih =>
  intro r h
  simp only [List.mapM_cons, Option.bind_eq_bind, Option.bind_eq_some_iff, Option.pure_def, Option.some.injEq] at h
  obtain ⟨b, hb, r', hr', rfl⟩ := h
  obtain ⟨h1, h2⟩ := ih hr'
  refine ⟨by simp [h1], fun i x hx => ?_⟩
  match i with
  | 0 => simp at hx; subst hx; exact ⟨b, rfl, hb⟩
  | i + 1 => simpa using h2 i x (by simpa using hx)
theorem alloc_sound (hO : Own B0 X A w μ ownN) (hB : B0 ≤ w.heap.size) (hk : μ own.length = none) {T : TypeId} {z : List SV} (hz : zeroSV P T = some z) (hc : z.all SV.isCell = true) (hbl : ownN[own.length]? = some (.cells T z)) :
  ∃ r w' μ', (Instr.alloc T true (.tuple #[])).run P w = .ok r w' ∧ After B0 X A w w' μ μ' ownN ∧ (∀ j, j ≠ own.length → μ' j = μ j) ∧ D w' (held A μ') μ' (.own own.length 0) r := by
 obtain ⟨inf, zv, hi, hzv, rfl, hD⟩ := zero_sound (w := w) (H := held A μ) (μ := μ) hz
 obtain ⟨μ', h1, h2, h3⟩ := new_cells hO hB hk hbl hD hc
 refine ⟨_, _, μ', ?_, h1, h2, h3⟩
 simp [Instr.alloc, run_zeroValue hi hzv, newVar, newRow]
theorem box_sound (hO : Own B0 X A w μ ownN) (hB : B0 ≤ w.heap.size) (hk : μ own.length = none) {T : TypeId} {s : SV} {v : Value} {cs : List SV} (hd : D w (held A μ) μ s v) (hs : s.cells = some cs) (hc : cs.all SV.isCell = true) (hbl : ownN[own.length]? = some (.cells T cs)) :
  ∃ r w' μ', (Instr.box T v).run P w = .ok r w' ∧ After B0 X A w w' μ μ' ownN ∧ (∀ j, j ≠ own.length → μ' j = μ j) ∧ D w' (held A μ') μ' (.own own.length 0) r := by
 obtain ⟨μ', h1, h2, h3⟩ := new_cells hO hB hk (vs := v.cells.toList) hbl (hd.cells hs) hc
 refine ⟨_, _, μ', ?_, h1, h2, h3⟩
 simp [Instr.box, newVar, newRow]
theorem madeCells_get (z : Array Value) (n i : Nat) (u : Value) (h : (madeCells z n).toList[i]? = some u) : i < n ∧ u = z[i % z.size]! := by
 simp only [madeCells, Array.toList_map, List.getElem?_map, Option.map_eq_some_iff] at h
 obtain ⟨x, hx, rfl⟩ := h
 rw [Array.getElem?_toList] at hx
 obtain ⟨hlt, e⟩ := Array.getElem?_eq_some_iff.1 hx
 simp at hlt e
 subst e
 exact ⟨hlt, rfl⟩
theorem make_sound (hO : Own B0 X A w μ ownN) (hB : B0 ≤ w.heap.size) (hk : μ own.length = none) {T e : TypeId} {inf : TypeInfo} {z : List SV} {kl kc : IntKind} {n m : Int} (ht : isSliceB P T = some e) (hi : P.info? e = some inf) (hz : zeroSV P e = some z)
  (hzl : z.length = inf.size) (hc : z.all SV.isCell = true) (hpu : z.all SV.pure = true) (hpos : 0 < inf.size) (h0 : 0 ≤ n) (hnm : n ≤ m) (hb : (inf.bytes : Int) * m ≤ 281474976710656) (h63 : m ≤ 9223372036854775807) (hbl : ownN[own.length]? = some (.row e inf.size n.toNat (fun _ => z) (some m.toNat))) :
  ∃ r w' μ', (Instr.makeSlice T (.int kl n) (.int kc m)).run P w = .ok r w' ∧ After B0 X A w w' μ μ' ownN ∧ (∀ j, j ≠ own.length → μ' j = μ j) ∧ D w' (held A μ') μ' (.osl own.length) r := by
 obtain ⟨inf', zv, hi', hzv, rfl, hD⟩ := zero_sound (w := w) (H := held A μ) (μ := μ) hz
 rw [hi] at hi'
 cases hi'
 have hzs : zv.cells.size = inf.size := by simpa using hzl
 have hr := run_make (P := P) w T e inf zv (isSliceB_sound ht) hi hzv kl kc n m h0 hnm hb h63
 have hone : ∀ v ∈ zv.cells.toList, v.oneCell' = true := one_of_all hD hc
 have hget : ∀ i u, (madeCells zv.cells (m.toNat * inf.size)).toList[i]? = some u → zv.cells.toList[i % inf.size]? = some u := by
  intro i u h
  obtain ⟨_, rfl⟩ := madeCells_get _ _ _ _ h
  rw [hzs]
  have hlt : i % inf.size < zv.cells.size := by rw [hzs]; exact Nat.mod_lt _ hpos
  rw [Array.getElem?_toList, getElem!_pos zv.cells (i % inf.size) hlt, Array.getElem?_eq_getElem hlt]
 obtain ⟨μ', h1, h2, h3⟩ := new_row hO hB hk (vs := (madeCells zv.cells (m.toNat * inf.size)).toList) hbl (by omega) (by simp only [maxLen]; omega) (fun i _ => ⟨by simpa using hzl, hpu⟩) (by simp [size_madeCells]) (fun v hv => by
  obtain ⟨i, hi, e⟩ := List.mem_iff_getElem.1 hv
  exact hone v (List.mem_of_getElem? (hget i v (by rw [← e]; exact List.getElem?_eq_getElem hi)))) (fun i j s v hi hs hv => by
  have hj : j < inf.size := by rw [← hzl]; exact (List.getElem?_eq_some_iff.1 hs).1
  have := hget _ _ hv
  rw [Nat.mul_comm, Nat.mul_add_mod, Nat.mod_eq_of_lt hj] at this
  exact hD.2 j s v hs this)
 refine ⟨_, _, μ', ?_, h1, h2, h3⟩
 rw [hr]
def mixSV (b : Bool) : SV → SV → SV
 | .int k n, .int k' m => if k = k' then .int k (bif b then n else m) else .any
 | .bool x, .bool y => .bool (bif b then x else y)
 | .sl sz n f c, .sl sz' n' f' c' => if sz = sz' then .sl sz (bif b then n else n') (fun i => bif b then f i else f' i) (bif b then c else c') else .any
 | s, t => if b then s else t
def mixL (b : Bool) : List SV → List SV → List SV
 | s :: r, t :: q => mixSV b s t :: mixL b r q
 | l, l' => if b then l else l'
theorem mixSV_imp (b : Bool) (s t : SV) : (∀ {w : World} {H : Nat → Prop} {μ : Mu} {v : Value}, D w H μ (if b then s else t) v → D w H μ (mixSV b s t) v) ∧ ((if b then s else t).pure = true → (mixSV b s t).pure = true) := by
 have key : (∀ {w : World} {H : Nat → Prop} {μ : Mu} {v : Value}, D w H μ (cond b s t) v → D w H μ (mixSV b s t) v) ∧ ((cond b s t).pure = true → (mixSV b s t).pure = true) := by
  unfold mixSV
  split
  ·
   split
   ·
    rename_i e; subst e; cases b <;> exact ⟨fun h => h, fun h => h⟩
   ·
    exact ⟨fun _ => .any, fun _ => rfl⟩
  ·
   cases b <;> exact ⟨fun h => h, fun h => h⟩
  ·
   split
   ·
    rename_i e; subst e; cases b <;> exact ⟨fun h => h, fun h => h⟩
   ·
    exact ⟨fun _ => .any, fun _ => rfl⟩
  ·
   cases b <;> exact ⟨fun h => h, fun h => h⟩
 cases b <;> exact key
theorem mixL_imp (b : Bool) : ∀ l l' : List SV, (mixL b l l').length = (if b then l else l').length ∧ ((if b then l else l').all SV.pure = true → (mixL b l l').all SV.pure = true) ∧
  ∀ (q : Nat) (s' : SV), (mixL b l l')[q]? = some s' → ∃ s, (if b then l else l')[q]? = some s ∧ ∀ {w : World} {H : Nat → Prop} {μ : Mu} {v : Value}, D w H μ s v → D w H μ s' v
 | [], l' => by unfold mixL; exact ⟨rfl, fun h => h, fun q s h => ⟨s, h, fun h => h⟩⟩
 | s :: r, [] => by unfold mixL; exact ⟨rfl, fun h => h, fun q s h => ⟨s, h, fun h => h⟩⟩
 | s :: r, t :: l => by
  obtain ⟨i1, i2, i3⟩ := mixL_imp b r l
  obtain ⟨m1, m2⟩ := mixSV_imp b s t
  unfold mixL
  refine ⟨by cases b <;> simpa using i1, fun h => ?_, fun q s' hq => ?_⟩
  ·
   cases b <;> simp_all
  ·
   match q with
   | 0 =>
    simp at hq
    subst hq
    cases b
    ·
     exact ⟨t, rfl, fun h => m1 h⟩
    ·
     exact ⟨s, rfl, fun h => m1 h⟩
   | q + 1 =>
    obtain ⟨x, hx, hd⟩ := i3 q s' (by simpa using hq)
    refine ⟨x, ?_, hd⟩
    cases b <;> simpa using hx
theorem BlkOK.row_weak {w : World} {H : Nat → Prop} {μ : Mu} {x : Value} {T : TypeId} {sz n : Nat} {f f' : Nat → List SV} {c : Option Nat} (hf : ∀ j, (f' j).length = (f j).length ∧ ((f j).all SV.pure = true → (f' j).all SV.pure = true) ∧ ∀ (q : Nat) (s' : SV), (f' j)[q]? = some s' → ∃ s, (f j)[q]? = some s ∧ ∀ {w : World} {H : Nat → Prop} {μ : Mu} {v : Value}, D w H μ s v → D w H μ s' v)
  (h : BlkOK w H μ x (.row T sz n f c)) : BlkOK w H μ x (.row T sz n f' c) := by
 obtain ⟨a, m, rfl, hn, hm, hc, hl, hrest⟩ := h
 refine ⟨a, m, rfl, hn, hm, hc, fun i hi => ⟨(hf i).1.trans (hl i hi).1, (hf i).2.1 (hl i hi).2⟩, ?_⟩
 rcases hrest with h | ⟨b, o, vs, hmp, rfl, hh, ho, h1, hd⟩
 ·
  exact .inl h
 ·
  refine .inr ⟨b, o, vs, hmp, rfl, hh, ho, h1, fun i j s v hi hs hv => ?_⟩
  obtain ⟨s0, hs0, himp⟩ := (hf i).2.2 j s hs
  exact himp (hd i j s0 v hi hs0 hv)
def evStore (P : Program) (own : List Blk) (T : TypeId) (p x : SV) : Option (Prop × List Blk) := do
 let n ← sizeB P T
 let us ← x.cells
 if us.length = n ∧ us.all SV.isCell then
  match p with
  | .own k off => match own[k]? with
   | some (.cells T0 cs) => if off + n ≤ cs.length then some (True, own.set k (.cells T0 (over cs off us))) else none
   | _ => none
  | .oel k sz i off => match own[k]? with
   | some (.row T0 sz' m f c) => if sz = sz' ∧ off + n ≤ sz ∧ us.all SV.pure then some (i < m, own.set k (.row T0 sz m (fun j => mixL (decide (j = i)) (over (f i) off us) (f j)) c)) else none
   | _ => none
  | _ => none
 else none
theorem zipOver_mem {α : Type} {p : α → Prop} : ∀ (vs us : List α), (∀ v ∈ vs, p v) → (∀ u ∈ us, p u) → ∀ v ∈ zipOver vs us, p v
 | [], us, h, _, v, hv => by simp [zipOver] at hv
 | _ :: _, [], h, _, v, hv => h v hv
 | x :: vs, u :: us, h, k, v, hv => by
  simp only [zipOver, List.mem_cons] at hv
  rcases hv with rfl | hv
  ·
   exact k v (by simp)
  ·
   exact zipOver_mem vs us (fun y hy => h y (by simp [hy])) (fun y hy => k y (by simp [hy])) v hv
theorem over_mem {α : Type} {p : α → Prop} (us : List α) : ∀ (vs : List α) (off : Nat), (∀ v ∈ vs, p v) → (∀ u ∈ us, p u) → ∀ v ∈ over vs off us, p v
 | [], 0, h, k, v, hv => zipOver_mem [] us h k v (by simpa [over] using hv)
 | x :: vs, 0, h, k, v, hv => zipOver_mem (x :: vs) us h k v (by simpa only [over] using hv)
 | x :: vs, n + 1, h, k, v, hv => by
  simp only [over, List.mem_cons] at hv
  rcases hv with rfl | hv
  ·
   exact h v (by simp)
  ·
   exact over_mem us vs n (fun y hy => h y (by simp [hy])) k v hv
 | [], _ + 1, _, _, v, hv => by simp [over] at hv
theorem store_sound (hO : Own B0 X A w μ own) {T : TypeId} {p x : SV} {v u : Value} {own' : List Blk} {pre : Prop} (hp : D w (held A μ) μ p v) (hx : D w (held A μ) μ x u) (he : evStore P own T p x = some (pre, own')) (hpre : pre) :
  ∃ w', (Instr.storeAt T v u).run P w = .ok () w' ∧ After B0 X A w w' μ μ own' := by
 simp only [evStore, Option.bind_eq_bind, Option.bind_eq_some_iff] at he
 obtain ⟨n, hn, us, hus, he⟩ := he
 split at he
 rotate_left
 ·
  cases he
 rename_i hc
 obtain ⟨hul, hcell⟩ := hc
 simp only [sizeB, Option.map_eq_some_iff] at hn
 obtain ⟨inf, hi, rfl⟩ := hn
 have hDL : DL w (held A μ) μ us u.cells.toList := hx.cells hus
 have hone := one_of_all hDL hcell
 have husz : u.cells.size = inf.size := by simpa [hul] using hDL.1
 have hrun : ∀ a : Addr, (Instr.storeAt T (.pointer (some a)) u).run P w = (storeCells a u.cells.toList).run P w := by
  intro a
  simp only [Instr.storeAt, Instr.sureAddr, Sem.run_bind, Sem.run_pure, Result.andThen_ok, storeVar, run_sizeOf hi, husz, ne_eq, not_true_eq_false, if_false]
 split at he
 ·
  rename_i k off
  split at he
  rotate_left
  ·
   cases he
  rename_i T0 cs hk
  split at he
  rotate_left
  ·
   cases he
  rename_i hoff
  simp only [Option.some.injEq, Prod.mk.injEq] at he
  obtain ⟨rfl, rfl⟩ := he
  cases hp with
  | own h =>
   rename_i b
   obtain ⟨bl, e, hok⟩ := hO.blk k _ h
   rw [hk] at e
   cases e
   obtain ⟨b', vs, e1, hh, hl, h1, hd⟩ := hok
   cases e1
   have hs := run_storeCells (P := P) b off T0 u.cells.toList w vs 0 hh (by rw [hDL.1, hl, hul]; omega) hone
   refine ⟨_, (hrun _).trans hs, ?_⟩
   rw [Nat.add_zero]
   have hkp : Keeps w (putRow w b (over vs off u.cells.toList) T0) (held A μ) (held A μ) μ μ := Keeps.put h (.inl rfl)
   refine ⟨own_put hO h (.inl rfl) ⟨b, _, rfl, putRow_same (lt_of_row hh), by rw [over_length, over_length]; exact hl, over_mem _ _ _ h1 hone, ?_⟩, Fr.put (hO.rng k _ b h (.inl rfl)).2.2, hkp⟩
   intro i s v hs hv
   exact ((DL.over (w := w) ⟨hl, hd⟩ hDL (by rw [hul]; omega)).2 i s v hs hv).keep hkp
 ·
  rename_i k sz i off
  split at he
  rotate_left
  ·
   cases he
  rename_i T0 sz' m f c hk
  split at he
  rotate_left
  ·
   cases he
  rename_i hoff
  obtain ⟨rfl, hoff, hpu⟩ := hoff
  simp only [Option.some.injEq, Prod.mk.injEq] at he
  obtain ⟨rfl, rfl⟩ := he
  cases hp with
  | oel h =>
   rename_i b o n1 m1
   obtain ⟨bl, e, hok⟩ := hO.blk k _ h
   rw [hk] at e
   cases e
   obtain ⟨a, m2, e1, hnm, hmx, hcap, hl, hrest⟩ := hok
   cases e1
   rcases hrest with e2 | ⟨b', o', vs, hmp, e2, hh, ho, h1, hd⟩
   ·
    omega
   cases e2
   have hbound : o + i * sz + sz ≤ vs.length := by
    have : i * sz + sz ≤ m1 * sz := by rw [← Nat.succ_mul]; exact Nat.mul_le_mul_right _ (by omega)
    omega
   have hs := run_storeCells (P := P) b (o + i * sz + off) T0 u.cells.toList w vs 0 hh (by rw [hDL.1, hul]; omega) hone
   refine ⟨_, (hrun _).trans hs, ?_⟩
   rw [Nat.add_zero]
   have hkp : Keeps w (putRow w b (over vs (o + i * sz + off) u.cells.toList) T0) (held A μ) (held A μ) μ μ := Keeps.put h (has_pos hmp)
   refine ⟨own_put hO h (has_pos hmp) (BlkOK.row_weak (f := fun j => if j = i then over (f i) off us else f j) (fun j => by have := mixL_imp (decide (j = i)) (over (f i) off us) (f j); simpa only [decide_eq_true_eq] using this) ⟨_, _, rfl, hnm, hmx, hcap, fun j hj => ?_, .inr ⟨b, o, _, hmp, rfl, putRow_same (lt_of_row hh), by rw [over_length]; exact ho, over_mem _ _ _ h1 hone, ?_⟩⟩), Fr.put (hO.rng k _ b h (has_pos hmp)).2.2, hkp⟩
   ·
    show (if j = i then over (f i) off us else f j).length = sz ∧ (if j = i then over (f i) off us else f j).all SV.pure = true
    split
    ·
     rw [over_length]
     exact ⟨(hl _ hpre).1, List.all_eq_true.2 (over_mem us (f i) off (List.all_eq_true.1 (hl _ hpre).2) (List.all_eq_true.1 hpu))⟩
    ·
     exact hl j hj
   intro j q s v hj hs hv
   replace hs : (if j = i then over (f i) off us else f j)[q]? = some s := hs
   rw [over_get _ _ _ _ (by rw [hDL.1, hul]; omega), hDL.1, hul] at hv
   have hq : q < sz := by
    split at hs
    ·
     have := (List.getElem?_eq_some_iff.1 hs).1
     rw [over_length, (hl _ hpre).1] at this
     exact this
    ·
     have := (List.getElem?_eq_some_iff.1 hs).1
     rw [(hl j hj).1] at this
     exact this
   by_cases e : j = i
   ·
    subst e
    rw [if_pos rfl, over_get _ _ _ _ (by rw [hul, (hl _ hpre).1]; omega), hul] at hs
    by_cases hin : off ≤ q ∧ q < off + inf.size
    ·
     rw [if_pos hin] at hs
     rw [if_pos (by omega), show o + j * sz + q - (o + j * sz + off) = q - off from by omega] at hv
     exact (hDL.2 _ _ _ hs hv).keep hkp
    ·
     rw [if_neg hin] at hs
     rw [if_neg (by omega)] at hv
     exact (hd _ _ _ _ hj hs hv).keep hkp
   ·
    rw [if_neg e] at hs
    rw [if_neg] at hv
    ·
     exact (hd _ _ _ _ hj hs hv).keep hkp
    ·
     intro hin
     rcases Nat.lt_or_gt_of_ne e with hlt | hgt
     ·
      have : j * sz + sz ≤ i * sz := by rw [← Nat.succ_mul]; exact Nat.mul_le_mul_right _ hlt
      omega
     ·
      have : i * sz + sz ≤ j * sz := by rw [← Nat.succ_mul]; exact Nat.mul_le_mul_right _ hgt
      omega
 ·
  cases he
end
def SV.kill0 (S : List Nat) : SV → SV
 | .osl j => if S.contains j then .any else .osl j
 | .oel j sz i off => if S.contains j then .any else .oel j sz i off
 | .fp ok j i o => if S.contains j then .any else .fp ok j i o
 | .own j o => .own j o
 | .agg _ => .any
 | .tup _ => .any
 | .clo f cs => if cs.all (fun c => match c with | .osl j => !S.contains j | .fp _ j _ _ => !S.contains j | .oel _ _ _ _ => false | .agg _ | .tup _ => false | .clo _ cs => cs.isEmpty | _ => true) then .clo f cs else .any
 | s => s
def SV.kill1 (S : List Nat) : SV → SV
 | .agg cs => .agg (cs.map (SV.kill0 S))
 | s => s.kill0 S
def SV.kill2 (S : List Nat) : SV → SV
 | .tup vs => .tup (vs.map (SV.kill1 S))
 | s => s.kill1 S
def Blk.kill (S : List Nat) : Blk → Blk
 | .cells T cs => .cells T (cs.map (SV.kill0 S))
 | .pmap K k has idx => if S.contains k then .dead else .pmap K k has idx
 | b => b
structure Keeps' (S : List Nat) (w w' : World) (H H' : Nat → Prop) (μ μ' : Mu) : Prop where
 size : w.heap.size ≤ w'.heap.size
 block : ∀ b, b < w.heap.size → ¬ H b → w'.heap[b]? = w.heap[b]?
 less : ∀ b, b < w.heap.size → H' b → H b
 own : ∀ j x, j ∉ S → μ j = some x → μ' j = some x
 ptr : ∀ k x, k ∈ S → μ k = some x → (∃ a n m, x = .slice a n m) ∨ ∃ ps qs, x = famV ps qs
section
variable {w w' : World} {H H' : Nat → Prop} {μ μ' : Mu} {S : List Nat}
theorem pure_change {s : SV} {v : Value} (hk : Keeps' S w w' H H' μ μ') (h : D w H μ s v) : s.pure = true → D w' H' μ' s v := by
 induction h with
 | int => exact fun _ => .int
 | bool => exact fun _ => .bool
 | con => exact fun _ => .con
 | own h => intro hp; simp [SV.pure, SV.pure0] at hp
 | osl h => intro hp; simp [SV.pure, SV.pure0] at hp
 | oel h => intro hp; simp [SV.pure, SV.pure0] at hp
 | omp h => intro hp; simp [SV.pure, SV.pure0] at hp
 | fp h => intro hp; simp [SV.pure, SV.pure0] at hp
 | mp r g hb hm hl hd ih =>
  exact fun _ => .mp r g (fun hh => hb (hk.less _ hm.lt hh)) (hm.keep (hk.block _ hm.lt hb)) hl (fun q i s v hq hs hv => ih q i s v hq hs hv (List.all_eq_true.1 (hl q hq).2 s (List.mem_of_getElem? hs)))
 | sl a b o m g hm hx hc hrow hl hd ih =>
  exact fun _ => .sl a b o m g hm hx hc (fun hn => by
   obtain ⟨e, hb, hr⟩ := hrow hn
   exact ⟨e, fun hh => hb (hk.less _ hr.1 hh), hr.keep hk.size (hk.block _ hr.1 hb)⟩) hl (fun i j s hi hs => ih i j s hi hs (List.all_eq_true.1 (hl i hi).2 s (List.mem_of_getElem? hs)))
 | rel b o g hi hb hrow hl hd ih =>
  exact fun _ => .rel b o g hi (fun hh => hb (hk.less _ hrow.1 hh)) (hrow.keep hk.size (hk.block _ hrow.1 hb)) hl (fun i j s hi hs => ih i j s hi hs (List.all_eq_true.1 (hl i hi).2 s (List.mem_of_getElem? hs)))
 | agg vs hl hd ih => intro hp; simp [SV.pure, SV.pure0] at hp
 | tup vs hl hd ih => intro hp; simp [SV.pure, SV.pure0] at hp
 | clo vs hl hd ih =>
  exact fun hp => .clo vs hl (fun i s v hs hv => ih i s v hs hv (pure_of0 (List.all_eq_true.1 hp s (List.mem_of_getElem? hs))))
 | ub h1 h2 => exact fun _ => .ub h1 h2
 | any => exact fun _ => .any
theorem fp_change {ok : Bool} {k i off : Nat} {v : Value} (hk : Keeps' S w w' H H' μ μ') (hS : k ∉ S) (h : D w H μ (.fp ok k i off) v) : D w' H' μ' (.fp ok k i off) v :=
 D.fp_keep (fun ps qs e => ⟨ps, qs, hk.own _ _ hS e, fun _ h => h⟩) h
theorem kill0_change {s : SV} {v : Value} (hk : Keeps' S w w' H H' μ μ') (h : D w H μ s v) : D w' H' μ' (s.kill0 S) v := by
 have nots : ∀ {j : Nat} {b : Nat}, μ j = some (.pointer (some ⟨b, 0, none⟩)) → j ∉ S := fun h hj => by rcases hk.ptr _ _ hj h with ⟨a, n, m, e⟩ | ⟨_, _, e⟩ <;> cases e
 have notm : ∀ {j : Nat} {r : Option Nat}, μ j = some (.map r) → j ∉ S := fun h hj => by rcases hk.ptr _ _ hj h with ⟨a, n, m, e⟩ | ⟨_, _, e⟩ <;> cases e
 cases h with
 | fp h =>
  simp only [SV.kill0]
  split
  ·
   exact .any
  ·
   rename_i e; exact fp_change hk (by simpa using e) (.fp h)
 | omp h => exact .omp (hk.own _ _ (notm h) h)
 | mp r g hb hm hl hd => exact pure_change hk (.mp r g hb hm hl hd) rfl
 | int => exact .int
 | bool => exact .bool
 | con => exact .con
 | own h =>
  exact .own (hk.own _ _ (nots h) h)
 | osl h =>
  rename_i j n m a
  simp only [SV.kill0]
  split
  ·
   exact .any
  ·
   rename_i e; exact .osl (hk.own _ _ (by simpa using e) h)
 | oel h =>
  simp only [SV.kill0]
  split
  ·
   exact .any
  ·
   rename_i e; exact .oel (hk.own _ _ (by simpa using e) h)
 | sl a b o m g hm hx hc hrow hl hd => exact pure_change hk (.sl a b o m g hm hx hc hrow hl hd) rfl
 | rel b o g hi hb hrow hl hd => exact pure_change hk (.rel b o g hi hb hrow hl hd) rfl
 | agg vs hl hd => exact .any
 | tup vs hl hd => exact .any
 | clo vs hl hd =>
  simp only [SV.kill0]
  split
  ·
   rename_i hall
   refine .clo vs hl (fun i s v hs hv => ?_)
   have hc := List.all_eq_true.1 hall s (List.mem_of_getElem? hs)
   have hD := hd i s v hs hv
   cases hD with
   | own h =>
    exact .own (hk.own _ _ (nots h) h)
   | omp h => exact .omp (hk.own _ _ (notm h) h)
   | fp h => exact fp_change hk (by simpa using hc) (.fp h)
   | mp r g hb hm hl hd => exact pure_change hk (.mp r g hb hm hl hd) rfl
   | osl h => exact .osl (hk.own _ _ (by simpa using hc) h)
   | oel h => simp at hc
   | agg => simp at hc
   | tup => simp at hc
   | clo us hl' hd' => exact pure_change hk (.clo us hl' hd') (by have := List.isEmpty_iff.1 hc; subst this; rfl)
   | int => exact .int
   | bool => exact .bool
   | con => exact .con
   | ub h1 h2 => exact .ub h1 h2
   | any => exact .any
   | sl a b o m g hm hx hc' hrow hl hd => exact pure_change hk (.sl a b o m g hm hx hc' hrow hl hd) rfl
   | rel b o g hi hb hrow hl hd => exact pure_change hk (.rel b o g hi hb hrow hl hd) rfl
  ·
   exact .any
 | ub h1 h2 => exact .ub h1 h2
 | any => exact .any
theorem kill1_change {s : SV} {v : Value} (hk : Keeps' S w w' H H' μ μ') (h : D w H μ s v) : D w' H' μ' (s.kill1 S) v := by
 unfold SV.kill1
 split
 ·
  cases h with
  | agg vs hl hd =>
   refine .agg vs (by simpa using hl) (fun i s v hs hv => ?_)
   simp only [List.getElem?_map, Option.map_eq_some_iff] at hs
   obtain ⟨s0, hs0, rfl⟩ := hs
   exact kill0_change hk (hd i s0 v hs0 hv)
 ·
  exact kill0_change hk h
theorem kill2_change {s : SV} {v : Value} (hk : Keeps' S w w' H H' μ μ') (h : D w H μ s v) : D w' H' μ' (s.kill2 S) v := by
 unfold SV.kill2
 split
 ·
  cases h with
  | tup vs hl hd =>
   refine .tup vs (by simpa using hl) (fun i s v hs hv => ?_)
   simp only [List.getElem?_map, Option.map_eq_some_iff] at hs
   obtain ⟨s0, hs0, rfl⟩ := hs
   exact kill1_change hk (hd i s0 v hs0 hv)
 ·
  exact kill1_change hk h
theorem BlkOK.change {x : Value} {bl : Blk} (hk : Keeps' S w w' H H' μ μ') (hb : ∀ b, Has x b → w'.heap[b]? = w.heap[b]?) (h : BlkOK w H μ x bl) : BlkOK w' H' μ' x (bl.kill S) := by
 cases bl with
 | cells T cs =>
  obtain ⟨b, vs, rfl, hh, hl, h1, hd⟩ := h
  refine ⟨b, vs, rfl, (hb b (.inl rfl)).trans hh, by simpa using hl, h1, fun i s v hs hv => ?_⟩
  simp only [List.getElem?_map, Option.map_eq_some_iff] at hs
  obtain ⟨s0, hs0, rfl⟩ := hs
  exact kill0_change hk (hd i s0 v hs0 hv)
 | row T sz n f c =>
  obtain ⟨a, m, rfl, hn, hm, hc, hl, h⟩ := h
  refine ⟨a, m, rfl, hn, hm, hc, hl, ?_⟩
  rcases h with h | ⟨b, o, vs, hmp, rfl, hh, ho, h1, hd⟩
  ·
   exact .inl h
  ·
   exact .inr ⟨b, o, vs, hmp, rfl, (hb b (has_pos hmp)).trans hh, ho, h1, fun i j s v hi hs hv => pure_change hk (hd i j s v hi hs hv) (List.all_eq_true.1 (hl i hi).2 s (List.mem_of_getElem? hs))⟩
 | map K ag has val =>
  obtain ⟨r, g, rfl, hm, hl, hd⟩ := h
  exact ⟨r, g, rfl, hm.keep (hb r (.inl rfl)), hl, fun q i s v hq hs hv => pure_change hk (hd q i s v hq hs hv) (List.all_eq_true.1 (hl q hq).2 s (List.mem_of_getElem? hs))⟩
 | fam T Ts n hole F =>
  obtain ⟨ps, qs, rfl, h, hh⟩ := h
  refine ⟨ps, qs, rfl, h.keep ⟨hk.size, hk.block, hk.less⟩ hb, hh.keep (fun i c p e hc => hk.own _ _ (fun hS => ?_) hc)⟩
  obtain ⟨p', e1, e2⟩ := hh i c e
  rw [hc] at e2
  cases e2
  have hi : i < n := by rw [← h.pl]; exact (List.getElem?_eq_some_iff.1 e1).1
  obtain ⟨b, us, e3, _⟩ := h.mem i hi
  rw [e1] at e3
  cases e3
  rcases hk.ptr _ _ hS hc with ⟨a, n, m, e⟩ | ⟨_, _, e⟩ <;> cases e
 | pmap K k has idx =>
  simp only [Blk.kill]
  split
  ·
   exact trivial
  rename_i hS
  obtain ⟨⟨ps, qs, he⟩, r, g, rfl, hm, hd⟩ := h
  exact ⟨⟨ps, qs, hk.own _ _ (by simpa using hS) he⟩, r, g, rfl, hm.keep (hb r (.inl rfl)), fun q hq => by obtain ⟨p, e, h⟩ := hd q hq; exact ⟨p, e, fp_change hk (by simpa using hS) h⟩⟩
 | dead => exact trivial
end
structure After' (S : List Nat) (B0 : Nat) (X A : Nat → Prop) (w w' : World) (μ μ' : Mu) (own' : List Blk) : Prop where
 own : Own B0 X A w' μ' own'
 fr : Fr B0 X w w'
 keeps : Keeps' S w w' (held A μ) (held A μ') μ μ'
theorem own_change_g {B0 : Nat} {X A : Nat → Prop} {w w' : World} {μ : Mu} {own : List Blk} (h : Own B0 X A w μ own) (hB : B0 ≤ w.heap.size) {k : Nat} {x y : Value} {bl : Blk} (hk : μ k = some x) (hxs : ∃ a n m, x = .slice a n m)
  (hys : ∃ a n m, y = .slice a n m) (hy : blkOf y = none ∨ blkOf y = blkOf x ∨ (∃ b, blkOf y = some b ∧ w.heap.size ≤ b ∧ b < w'.heap.size ∧ B0 ≤ b)) (hsz : w.heap.size ≤ w'.heap.size) (hbl : ∀ b, b < w.heap.size → blkOf x ≠ some b → w'.heap[b]? = w.heap[b]?)
  (hos : w'.os = w.os) (hta : w'.tape = w.tape) (hou : w'.output = w.output)
  (hok : Keeps' [k] w w' (held A μ) (held A (μ.set k y)) μ (μ.set k y) → BlkOK w' (held A (μ.set k y)) (μ.set k y) y bl) (hdw : w.drawn ≤ w'.drawn := by first | exact Nat.le_refl _ | exact Nat.le_succ _) :
  After' [k] B0 X A w w' μ (μ.set k y) ((own.map (Blk.kill [k])).set k bl) := by
 obtain ⟨xa, xn, xm, rfl⟩ := hxs
 obtain ⟨ya, yn, ym, rfl⟩ := hys
 have hrng := h.rng
 have hkp : Keeps' [k] w w' (held A μ) (held A (μ.set k (.slice ya yn ym))) μ (μ.set k (.slice ya yn ym)) := by
  refine ⟨hsz, fun b hb hh => hbl b hb (fun e => hh (.inr ⟨k, _, hk, .inl e⟩)), fun b hb hh => ?_, fun j z hj hz => by simp only [List.mem_singleton] at hj; simp [Mu.set, hj, hz], fun j z hj hz => by simp only [List.mem_singleton] at hj; subst hj; rw [hk] at hz; cases hz; exact .inl ⟨_, _, _, rfl⟩⟩
  rcases hh with hh | ⟨j, z, hj, hz⟩
  ·
   exact .inl hh
  ·
   unfold Mu.set at hj
   split at hj
   ·
    cases hj
    rw [has_slice] at hz
    rcases hy with hy | hy | ⟨b', hy, hge, _⟩
    ·
     rw [hy] at hz; cases hz
    ·
     rw [hy] at hz; exact .inr ⟨k, _, hk, .inl hz⟩
    ·
     rw [hy] at hz; cases hz; omega
   ·
    exact .inr ⟨j, z, hj, hz⟩
 have hne : ∀ j z b, j ≠ k → μ j = some z → Has z b → blkOf (Value.slice xa xn xm) ≠ some b := fun j z b hj hz hb e => hj (h.inj j k z _ b hz hk hb (.inl e))
 refine ⟨⟨fun j z hj => ?_, fun j j' z z' b hj hj' hz hz' => ?_, fun j z b hj hz => ?_, fun b hb => Nat.lt_of_lt_of_le (h.bnd b hb) hsz⟩, ⟨hos, hta, hou, fun _ => hdw, hsz, fun i hi hX => ?_⟩, hkp⟩
 ·
  by_cases e : j = k
  ·
   subst e
   have : z = .slice ya yn ym := by simpa [Mu.set] using hj.symm
   subst this
   obtain ⟨bl0, e0, _⟩ := h.blk j _ hk
   have hlt : j < own.length := (List.getElem?_eq_some_iff.1 e0).1
   exact ⟨bl, by simp [hlt], hok hkp⟩
  ·
   have hj' : μ j = some z := by simpa [Mu.set, e] using hj
   obtain ⟨bl0, e0, hb0⟩ := h.blk j z hj'
   refine ⟨bl0.kill [k], by rw [List.getElem?_set_ne (Ne.symm e), List.getElem?_map, e0]; rfl, hb0.change hkp (fun b hb => hbl b (hrng j z b hj' hb).1 (hne j z b e hj' hb))⟩
 ·
  have key : ∀ j z, Mu.set μ k (.slice ya yn ym) j = some z → (j = k ∧ z = .slice ya yn ym) ∨ (j ≠ k ∧ μ j = some z) := by
   intro j z hj
   by_cases e : j = k
   ·
    subst e; exact .inl ⟨rfl, by simpa [Mu.set] using hj.symm⟩
   ·
    exact .inr ⟨e, by simpa [Mu.set, e] using hj⟩
  have cross : ∀ j z, j ≠ k → μ j = some z → Has z b → Has (.slice ya yn ym) b → False := by
   intro j z hj hz hb hyb
   rw [has_slice] at hyb
   rcases hy with hy | hy | ⟨b', hy, hge, _⟩
   ·
    rw [hy] at hyb; cases hyb
   ·
    rw [hy] at hyb; exact hne j z b hj hz hb hyb
   ·
    rw [hy] at hyb; cases hyb
    have := (hrng j z b hz hb).1; omega
  rcases key j z hj with ⟨e, rfl⟩ | ⟨e, em⟩ <;> rcases key j' z' hj' with ⟨e', e2⟩ | ⟨e', em'⟩
  ·
   rw [e, e']
  ·
   exact (cross j' z' e' em' hz' hz).elim
  ·
   subst e2; exact (cross j z e em hz hz').elim
  ·
   exact h.inj j j' z z' b em em' hz hz'
 ·
  by_cases e : j = k
  ·
   subst e
   have : z = .slice ya yn ym := by simpa [Mu.set] using hj.symm
   subst this
   rw [has_slice] at hz
   rcases hy with hy | hy | ⟨b', hy, hge, hlt, hB⟩
   ·
    rw [hy] at hz; cases hz
   ·
    rw [hy] at hz
    obtain ⟨r1, r2, r3⟩ := hrng j _ b hk (.inl hz)
    exact ⟨Nat.lt_of_lt_of_le r1 hsz, r2, r3⟩
   ·
    rw [hy] at hz; cases hz
    exact ⟨hlt, fun ha => by have := h.bnd _ ha; omega, .inl hB⟩
  ·
   have hj' : μ j = some z := by simpa [Mu.set, e] using hj
   obtain ⟨r1, r2, r3⟩ := hrng j z b hj' hz
   exact ⟨Nat.lt_of_lt_of_le r1 hsz, r2, r3⟩
 ·
  rcases Nat.lt_or_ge i w.heap.size with hlt | hge
  ·
   refine hbl i hlt (fun e => ?_)
   rcases (hrng k _ i hk (.inl e)).2.2 with h3 | h3
   ·
    omega
   ·
    exact hX h3
  ·
   omega
theorem own_change {B0 : Nat} {X A : Nat → Prop} {w w' : World} {μ : Mu} {own : List Blk} (h : Own B0 X A w μ own) (hB : B0 ≤ w.heap.size) {k : Nat} {x y : Value} {bl : Blk} (hk : μ k = some x) (hxs : ∃ a n m, x = .slice a n m)
  (hys : ∃ a n m, y = .slice a n m) (hy : blkOf y = blkOf x ∨ (∃ b, blkOf y = some b ∧ w.heap.size ≤ b ∧ b < w'.heap.size ∧ B0 ≤ b)) (hsz : w.heap.size ≤ w'.heap.size) (hbl : ∀ b, b < w.heap.size → blkOf x ≠ some b → w'.heap[b]? = w.heap[b]?)
  (hos : w'.os = w.os) (hta : w'.tape = w.tape) (hou : w'.output = w.output)
  (hok : Keeps' [k] w w' (held A μ) (held A (μ.set k y)) μ (μ.set k y) → BlkOK w' (held A (μ.set k y)) (μ.set k y) y bl) (hdw : w.drawn ≤ w'.drawn := by first | exact Nat.le_refl _ | exact Nat.le_succ _) :
  After' [k] B0 X A w w' μ (μ.set k y) ((own.map (Blk.kill [k])).set k bl) :=
 own_change_g h hB hk hxs hys (.inr hy) hsz hbl hos hta hou hok hdw
def elemsSV (own : List Blk) (sz : Nat) : SV → Option (Nat × (Nat → List SV))
 | .con (.slice none 0 0) => some (0, fun _ => [])
 | .sl sz' n f _ => if sz = sz' then some (n, f) else none
 | .osl k => match own[k]? with
  | some (.row _ sz' n f _) => if sz = sz' then some (n, f) else none
  | _ => none
 | _ => none
section
variable {P : Program} {w : World} {μ : Mu} {B0 : Nat} {X A : Nat → Prop} {own ownN : List Blk}
theorem elems_sound (hO : Own B0 X A w μ ownN) (hsub : ∀ (k : Nat) (bl : Blk), own[k]? = some bl → ownN[k]? = some bl) {y : SV} {v : Value} {sz n : Nat} {f : Nat → List SV} (hy : D w (held A μ) μ y v) (he : elemsSV own sz y = some (n, f)) :
  ∃ (a : Option Addr) (m : Nat) (news : List Value), v = .slice a n m ∧ n ≤ m ∧ m ≤ maxLen ∧ news.length = n * sz ∧ (∀ v ∈ news, v.oneCell' = true) ∧ (∀ i, i < n → (f i).length = sz ∧ (f i).all SV.pure = true) ∧
   (0 < n → ∃ ad, a = some ad ∧ ad.spot = none ∧ ∀ (j : Nat) (u : Value), news[j]? = some u → w.cell? (ad.add j) = some u) ∧
   ∀ (i j : Nat) (s : SV) (u : Value), i < n → (f i)[j]? = some s → news[i * sz + j]? = some u → D w (held A μ) μ s u := by
 cases hy with
 | con =>
  unfold elemsSV at he
  split at he <;> first
   | (rename_i heq; cases heq; cases he; exact ⟨none, 0, [], rfl, Nat.le_refl _, by simp [maxLen], by simp, by simp, fun i h => absurd h (Nat.not_lt_zero _), fun h => absurd h (Nat.lt_irrefl _), fun i j s u h => absurd h (Nat.not_lt_zero _)⟩)
   | simp_all
 | sl a b o m g hm hx hc hrow hl hd =>
  rename_i sz' n' f' c
  simp only [elemsSV] at he
  split at he
  rotate_left
  ·
   cases he
  rename_i e
  subst e
  simp only [Option.some.injEq, Prod.mk.injEq] at he
  obtain ⟨rfl, rfl⟩ := he
  have idx : ∀ (x : Nat) (u : Value), ((List.range (n' * sz)).map fun x => g (x / sz) (x % sz))[x]? = some u → x < n' * sz ∧ u = g (x / sz) (x % sz) := by
   intro x u hu
   simp only [List.getElem?_map, Option.map_eq_some_iff] at hu
   obtain ⟨y, hy, rfl⟩ := hu
   rw [List.getElem?_eq_some_iff] at hy
   obtain ⟨hlt, e⟩ := hy
   simp at hlt e
   subst e
   exact ⟨hlt, rfl⟩
  have split_ : ∀ x, x < n' * sz → x / sz < n' ∧ x % sz < sz ∧ x / sz * sz + x % sz = x := by
   intro x hx
   have hpos : 0 < sz := by
    rcases Nat.eq_zero_or_pos sz with h0 | h0
    ·
     subst h0; omega
    ·
     exact h0
   refine ⟨Nat.div_lt_of_lt_mul (by rwa [Nat.mul_comm]), Nat.mod_lt _ hpos, ?_⟩
   have := Nat.div_add_mod x sz
   rw [Nat.mul_comm] at this
   exact this
  refine ⟨a, m, (List.range (n' * sz)).map fun x => g (x / sz) (x % sz), rfl, hm, hx, by simp, ?_, hl, ?_, ?_⟩
  ·
   intro v hv
   obtain ⟨x, hx', e⟩ := List.mem_iff_getElem.1 hv
   obtain ⟨h1, h2⟩ := idx x v (by rw [← e]; exact List.getElem?_eq_getElem hx')
   obtain ⟨s1, s2, _⟩ := split_ x h1
   rw [h2]
   exact ((hrow (Nat.lt_of_le_of_lt (Nat.zero_le _) s1)).2.2.2 _ _ s1 s2).2
  ·
   intro hn
   obtain ⟨rfl, hb, hr⟩ := hrow hn
   refine ⟨_, rfl, rfl, fun x u hu => ?_⟩
   obtain ⟨h1, h2⟩ := idx x u hu
   obtain ⟨s1, s2, s3⟩ := split_ x h1
   have := (hr.2 _ _ s1 s2).1
   rw [Addr.add_lit, h2, ← this, Nat.add_assoc, s3]
  ·
   intro i j s u hi hs hu
   obtain ⟨h1, h2⟩ := idx _ u hu
   have hj : j < sz := by rw [← (hl i hi).1]; exact (List.getElem?_eq_some_iff.1 hs).1
   have e1 : (i * sz + j) / sz = i := by rw [Nat.mul_comm, Nat.mul_add_div (by omega), Nat.div_eq_of_lt hj]; rfl
   have e2 : (i * sz + j) % sz = j := by rw [Nat.mul_comm, Nat.mul_add_mod, Nat.mod_eq_of_lt hj]
   rw [e1, e2] at h2
   rw [h2]
   exact hd i j s hi hs
 | osl h =>
  rename_i k n0 m0 a0
  simp only [elemsSV] at he
  split at he
  rotate_left
  ·
   cases he
  rename_i T sz' n' f' c hk
  split at he
  rotate_left
  ·
   cases he
  rename_i e
  subst e
  simp only [Option.some.injEq, Prod.mk.injEq] at he
  obtain ⟨rfl, rfl⟩ := he
  obtain ⟨bl, e', hok⟩ := hO.blk _ _ h
  rw [hsub _ _ hk] at e'
  cases e'
  obtain ⟨a, m, e1, hn, hm, hc, hl, hrest⟩ := hok
  cases e1
  rcases hrest with rfl | ⟨b, o, vs, hmp, rfl, hh, ho, h1, hd⟩
  ·
   obtain rfl : n0 = 0 := by omega
   exact ⟨_, 0, [], rfl, Nat.le_refl _, by simp [maxLen], by simp, by simp, hl, fun h => absurd h (Nat.lt_irrefl _), fun i j s u h => absurd h (Nat.not_lt_zero _)⟩
  ·
   have hle : n0 * sz ≤ m0 * sz := Nat.mul_le_mul_right _ hn
   refine ⟨_, m0, (vs.drop o).take (n0 * sz), rfl, hn, hm, by simp; omega, fun v hv => h1 v (List.mem_of_mem_drop (List.mem_of_mem_take hv)), hl, fun _ => ⟨_, rfl, rfl, fun j u hu => ?_⟩, fun i j s u hi hs hu => ?_⟩
   ·
    rw [Addr.add_lit, cell_row hh]
    exact (get_drop_take hu).2
   ·
    exact hd i j s u hi hs (by rw [Nat.add_assoc]; exact (get_drop_take hu).2)
 | _ => simp [elemsSV] at he
def bound (d : Int) : Option (Option SV) → Option Int
 | none => some d
 | some (some (.int _ n)) => some n
 | _ => none
def evSlice (P : Program) (own : List Blk) (T : TypeId) (x : SV) (lo hi mx : Option (Option SV)) : Option (Prop × SV) :=
 match P.underlying T with
 | some (.slice e) => match x, mx with
  | .sl sz n f c, none => do
   let l ← bound 0 lo
   let h ← bound n hi
   some (sizeB P e = some sz ∧ 0 ≤ l ∧ l ≤ h ∧ h ≤ n, .sl sz (h - l).toNat (fun j => f (l.toNat + j)) (c.map fun m => m - l.toNat))
  | .sl sz n f _, some m => do
   let l ← bound 0 lo
   let h ← bound n hi
   let m ← bound n (some m)
   if hi.isNone then none else
   some (sizeB P e = some sz ∧ 0 ≤ l ∧ l ≤ h ∧ h ≤ m ∧ m ≤ n, .sl sz (h - l).toNat (fun j => f (l.toNat + j)) (some (m - l).toNat))
  | _, _ => none
 | some (.array n e) => match x, lo, hi, mx with
  | .rel sz n' f 0 0, none, none, none => if sizeB P e = some sz ∧ n = n' ∧ n ≤ 1000000 then some (True, .sl sz n f (some n)) else none
  | _, _, _, _ => none
 | _ => none
end
section
variable {P : Program} {w : World} {μ : Mu} {B0 : Nat} {X A : Nat → Prop} {own ownN : List Blk}
def DO (w : World) (H : Nat → Prop) (μ : Mu) (o : Option (Option SV)) (v : Option Value) : Prop :=
 match o, v with
 | none, none => True
 | some (some s), some u => D w H μ s u
 | some none, some _ => True
 | _, _ => False
theorem cut_row {H : Nat → Prop} {sz n : Nat} {f : Nat → List SV} {a : Option Addr} {b o m l h m' : Nat} {g : Nat → Nat → Value} (hm : n ≤ m) (hx : m ≤ maxLen)
  (hrow : 0 < n → a = some ⟨b, o, none⟩ ∧ ¬ H b ∧ RowAt w b o sz n g) (hl : ∀ i, i < n → (f i).length = sz ∧ (f i).all SV.pure = true) (hd : ∀ (i j : Nat) (s : SV), i < n → (f i)[j]? = some s → D w H μ s (g i j))
  (h1 : l ≤ h) (h2 : h ≤ n) (h3 : h ≤ m') (h4 : m' ≤ m) {c : Option Nat} (hc : c = none ∨ c = some (m' - l)) :
  D w H μ (.sl sz (h - l) (fun j => f (l + j)) c) (.slice (if m' = l then a else a.map (·.add (l * sz))) (h - l) (m' - l)) := by
 refine .sl _ b (o + l * sz) (m' - l) (fun i j => g (l + i) j) (by omega) (by omega) hc (fun hn => ?_) (fun i hi => hl _ (by omega)) (fun i j s hi hs => hd _ _ _ (by omega) hs)
 obtain ⟨rfl, hb, hr⟩ := hrow (by omega)
 rw [if_neg (by omega)]
 refine ⟨by simp [Addr.add_lit], hb, hr.1, fun i j hi hj => ?_⟩
 have := hr.2 (l + i) j (by omega) hj
 rwa [show o + (l + i) * sz + j = o + l * sz + i * sz + j from by rw [Nat.add_mul]; omega] at this
theorem slice_sound {H : Nat → Prop} {T : TypeId} {x s : SV} {v : Value} {lo hi mx : Option (Option SV)} {vl vh vm : Option Value} {pre : Prop} (hx : D w H μ x v) (hlo : DO w H μ lo vl) (hhi : DO w H μ hi vh) (hmx : DO w H μ mx vm)
  (he : evSlice P own T x lo hi mx = some (pre, s)) (hp : pre) : ∃ r, (Instr.sliceAt T v vl vh vm).run P w = .ok r w ∧ D w H μ s r := by
 have bnd : ∀ {d : Int} {o : Option (Option SV)} {u : Option Value} {n : Int}, DO w H μ o u → bound d o = some n → (u = none ∧ o = none ∧ n = d) ∨ ∃ k, u = some (.int k n) ∧ o.isNone = false := by
  intro d o u n hd hb
  unfold bound at hb
  split at hb
  ·
   cases hb
   cases u with
   | none => exact .inl ⟨rfl, rfl, rfl⟩
   | some _ => simp [DO] at hd
  ·
   cases hb
   cases u with
   | none => simp [DO] at hd
   | some u => simp only [DO] at hd; cases hd; exact .inr ⟨_, rfl, rfl⟩
  ·
   cases hb
 unfold evSlice at he
 split at he
 ·
  rename_i e hT
  have hTe : P.elem T = e := by simp [Program.elem, hT]
  split at he
  ·
   rename_i sz n f c
   simp only [Option.bind_eq_bind, Option.bind_eq_some_iff, Option.some.injEq, Prod.mk.injEq] at he
   obtain ⟨l, hl', h, hh', rfl, rfl⟩ := he
   obtain ⟨hsz, h0, h1, h2⟩ := hp
   simp only [sizeB, Option.map_eq_some_iff] at hsz
   obtain ⟨inf, hinf, rfl⟩ := hsz
   cases vm with
   | some _ => simp [DO] at hmx
   | none =>
   cases hx with
   | sl a b o m g hm hmx' hc hrow hl hd =>
    have hb1 : (Instr.sliceBounds true n m vl vh none).run P w = .ok (l.toNat, h.toNat, m) w := by
     rcases bnd hlo hl' with ⟨rfl, _, rfl⟩ | ⟨kl, rfl, _⟩ <;> rcases bnd hhi hh' with ⟨rfl, _, rfl⟩ | ⟨kh, rfl, _⟩
     ·
      simp [Instr.sliceBounds]
     ·
      simp [Instr.sliceBounds, run_sliceBound w kh h m _ (by omega) (by omega)]
     ·
      simp [Instr.sliceBounds, run_sliceBound w kl l n _ (by omega) (by omega)]
     ·
      have := run_sliceBound (P := P) w kl l h.toNat .sliceB (by omega) (by omega)
      simp [Instr.sliceBounds, run_sliceBound w kh h m _ (by omega) (by omega), this]
    refine ⟨.slice (if m = l.toNat then a else a.map (·.add (l.toNat * inf.size))) (h.toNat - l.toNat) (m - l.toNat), ?_, ?_⟩
    rotate_left
    ·
     have := cut_row (w := w) (H := H) (μ := μ) (l := l.toNat) (h := h.toNat) (m' := m) hm hmx' hrow hl hd (by omega) (by omega) (by omega) (Nat.le_refl _) (c := c.map fun m => m - l.toNat) (by rcases hc with rfl | rfl; exact .inl rfl; exact .inr rfl)
     rw [show (h - l).toNat = h.toNat - l.toNat from by omega]
     exact this
    ·
     simp only [Instr.sliceAt, Sem.run_bind, run_underlying hT, Result.andThen_ok, Instr.slice, hb1, run_sizeOf hinf, Sem.run_pure]
  ·
   rename_i sz n f c m
   simp only [Option.bind_eq_bind, Option.bind_eq_some_iff] at he
   obtain ⟨l, hl', h, hh', mm, hm', he⟩ := he
   split at he
   ·
    cases he
   rename_i hhn
   simp only [Option.some.injEq, Prod.mk.injEq] at he
   obtain ⟨rfl, rfl⟩ := he
   obtain ⟨hsz, h0, h1, h2, h3⟩ := hp
   simp only [sizeB, Option.map_eq_some_iff] at hsz
   obtain ⟨inf, hinf, rfl⟩ := hsz
   cases hx with
   | sl a b o mc g hm hmx' hc hrow hl hd =>
    have hb1 : (Instr.sliceBounds true n mc vl vh vm).run P w = .ok (l.toNat, h.toNat, mm.toNat) w := by
     rcases bnd hmx hm' with ⟨rfl, e, rfl⟩ | ⟨km, rfl, _⟩
     ·
      cases e
     rcases bnd hhi hh' with ⟨rfl, e, rfl⟩ | ⟨kh, rfl, _⟩
     ·
      simp [e] at hhn
     have e1 := run_sliceBound (P := P) w km mm mc .slice3Acap (by omega) (by omega)
     have e2 := run_sliceBound (P := P) w kh h mm.toNat .slice3B (by omega) (by omega)
     rcases bnd hlo hl' with ⟨rfl, _, rfl⟩ | ⟨kl, rfl, _⟩
     ·
      simp [Instr.sliceBounds, e1, e2]
     ·
      have e3 := run_sliceBound (P := P) w kl l h.toNat .slice3C (by omega) (by omega)
      simp [Instr.sliceBounds, e1, e2, e3]
    refine ⟨.slice (if mm.toNat = l.toNat then a else a.map (·.add (l.toNat * inf.size))) (h.toNat - l.toNat) (mm.toNat - l.toNat), ?_, ?_⟩
    rotate_left
    ·
     have := cut_row (w := w) (H := H) (μ := μ) (l := l.toNat) (h := h.toNat) (m' := mm.toNat) hm hmx' hrow hl hd (by omega) (by omega) (by omega) (by omega) (c := some (mm - l).toNat) (.inr (by congr 1; omega))
     rw [show (h - l).toNat = h.toNat - l.toNat from by omega]
     exact this
    ·
     simp only [Instr.sliceAt, Sem.run_bind, run_underlying hT, Result.andThen_ok, Instr.slice, hb1, run_sizeOf hinf, Sem.run_pure]
  ·
   cases he
 ·
  rename_i n e hT
  have hTe : P.elem T = e := by simp [Program.elem, hT]
  have hTl : P.arrayLen T = n := by simp [Program.arrayLen, hT]
  split at he
  ·
   rename_i sz n' f
   split at he
   rotate_left
   ·
    cases he
   rename_i hc
   obtain ⟨hsz, rfl, hn⟩ := hc
   simp only [Option.some.injEq, Prod.mk.injEq] at he
   obtain ⟨rfl, rfl⟩ := he
   simp only [sizeB, Option.map_eq_some_iff] at hsz
   obtain ⟨inf, hinf, rfl⟩ := hsz
   cases hx with
   | rel b o g hi hb hr hl hd =>
    cases vl <;> cases vh <;> cases vm <;> simp [DO] at hlo hhi hmx
    refine ⟨.slice (some ⟨b, o, none⟩) n n, ?_, .sl _ b o n g (Nat.le_refl _) (by simp only [maxLen]; omega) (.inr rfl) (fun _ => ⟨rfl, hb, hr⟩) hl hd⟩
    simp [Instr.sliceAt, run_underlying hT, Instr.sureAddr, Instr.sliceBounds, run_sizeOf hinf, Addr.add_zero']
  ·
   cases he
 ·
  cases he
def appendTo (own : List Blk) (e : TypeId) (inf : TypeInfo) (m : Nat) (g : Nat → List SV) : SV → Option (Prop × Nat × List Blk × Bool)
 | .con (.slice none 0 0) => some (m ≤ 9223372036854775807 ∧ m * inf.bytes ≤ 140737488355328, own.length, own ++ [.row e inf.size m g none], true)
 | .sl sz n f (some c) => if sz = inf.size then
   some (n = c ∧ (n = 0 ∨ 0 < m) ∧ n + m ≤ 9223372036854775807 ∧ (n + m) * inf.bytes ≤ 140737488355328, own.length, own ++ [.row e inf.size (n + m) (fun j => if j < n then f j else g (j - n)) none], true)
  else none
 | .osl k => match own[k]? with
  | some (.row e' sz n f _) => if e' = e ∧ sz = inf.size then
    some (n + m ≤ 9223372036854775807 ∧ (n + m) * inf.bytes ≤ 140737488355328, k, (own.map (Blk.kill [k])).set k (.row e sz (n + m) (fun j => if j < n then f j else g (j - n)) none), false)
   else none
  | _ => none
 | _ => none
def evAppend (P : Program) (own : List Blk) (T : TypeId) (x y : SV) : Option (Prop × Nat × List Blk × Bool) :=
 (isSliceB P T).bind fun e => (P.info? e).bind fun inf => (zeroSV P e).bind fun z => (elemsSV own inf.size y).bind fun mg =>
  if z.length = inf.size ∧ 0 < inf.size ∧ z.all SV.isCell then appendTo own e inf mg.1 mg.2 x else none
theorem run_firstCells_of {size n : Nat} {a : Option Addr} {c : Nat} {news : List Value} (hl : news.length = n * size) (h : 0 < n → ∃ ad, a = some ad ∧ ad.spot = none ∧ ∀ (j : Nat) (u : Value), news[j]? = some u → w.cell? (ad.add j) = some u) :
  (Builtin.firstCells size n (.slice a n c)).run P w = .ok news.toArray w := by
 rcases Nat.eq_zero_or_pos n with h0 | h0
 ·
  subst h0
  have : news = [] := List.eq_nil_of_length_eq_zero (by simpa using hl)
  subst this
  cases a with
  | none => simp [Builtin.firstCells]
  | some ad => simp [Builtin.firstCells, loadCells, loadCellsFrom]
 ·
  obtain ⟨ad, rfl, _, hc⟩ := h h0
  simp only [Builtin.firstCells]
  exact run_loadCells ad news (n * size) hl hc
theorem zeroCells_one {zv : Value} (hz : ∀ v ∈ zv.cells.toList, v.oneCell' = true) (n : Nat) : ∀ v ∈ (Builtin.zeroCells zv.cells n).toList, v.oneCell' = true := by
 intro v hv
 simp only [Builtin.zeroCells, Array.toList_map, List.mem_map] at hv
 obtain ⟨i, hi, rfl⟩ := hv
 have hi' : i < n * zv.cells.size := by simpa using hi
 have hpos : 0 < zv.cells.size := by
  rcases Nat.eq_zero_or_pos zv.cells.size with h0 | h0
  ·
   rw [h0] at hi'; omega
  ·
   exact h0
 have hlt : i % zv.cells.size < zv.cells.size := Nat.mod_lt _ hpos
 rw [getElem!_pos zv.cells _ hlt]
 exact hz _ (by simp)
theorem run_append_new {T ty e : TypeId} {inf : TypeInfo} {zv : Value} (ht : P.underlying T = some (.slice e)) (hi : P.info? e = some inf) (hz : inf.zero = some zv)
  {a a' : Option Addr} {n m k c : Nat} {olds news : List Value} (ho : (Builtin.firstCells inf.size n (.slice a n c)).run P w.drew = .ok olds.toArray w.drew) (hn : (Builtin.firstCells inf.size m (.slice a' m k)).run P w.drew = .ok news.toArray w.drew)
  (hg : c < n + m) (h63 : n + m ≤ 9223372036854775807) (hb : (n + m) * inf.bytes ≤ 140737488355328) :
  (Builtin.append_ #[T, T] ty #[.slice a n c, .slice a' m k]).run P w = .ok (.slice (some ⟨w.heap.size, 0, none⟩) (n + m) (grownCap w (n + m) c e))
   (w.drew.alloc (.cells (olds ++ news ++ (Builtin.zeroCells zv.cells (grownCap w (n + m) c e - (n + m))).toList).toArray e)) := by
 have h1 : ¬ (n + m ≤ c) := by omega
 have h63' : ¬ (9223372036854775807 < ((n : Int) + (m : Int))) := by omega
 have h48 := growslice_fits hg hb
 have h48' : ¬ (281474976710656 < Builtin.nextslicecap (n + m) c * inf.bytes) := by omega
 simp [Builtin.append_, run_underlying ht, sizeOf, typeInfo, zeroValue, hi, hz, Builtin.lenOf, h1, h63', h48', Question.forced, ho, hn, newRow, grownCap]
 congr 1
 congr 1
 apply Array.ext'
 simp
theorem run_append_in {T ty e : TypeId} {inf : TypeInfo} (ht : P.underlying T = some (.slice e)) (hi : P.info? e = some inf) {T0 : TypeId}
  {b o : Nat} {vs : List Value} {a' : Option Addr} {n m k c : Nat} {news : List Value} (hh : w.heap[b]? = some (.cells vs.toArray T0 (0, 0))) (hn : (Builtin.firstCells inf.size m (.slice a' m k)).run P w = .ok news.toArray w)
  (hg : n + m ≤ c) (hl : o + n * inf.size + news.length ≤ vs.length) (h1 : ∀ u ∈ news, u.oneCell' = true) :
  (Builtin.append_ #[T, T] ty #[.slice (some ⟨b, o, none⟩) n c, .slice a' m k]).run P w = .ok (.slice (some ⟨b, o, none⟩) (n + m) c) (putRow w b (over vs (o + n * inf.size) news) T0) := by
 have hs := run_storeCells (P := P) b (o + n * inf.size) T0 news w vs 0 hh (by omega) h1
 rw [Nat.add_zero] at hs
 simp [Builtin.append_, run_underlying ht, sizeOf, typeInfo, hi, Builtin.lenOf, hg, hn, Addr.add_lit, hs]
theorem run_append_none {T ty e : TypeId} {inf : TypeInfo} (ht : P.underlying T = some (.slice e)) (hi : P.info? e = some inf) {a a' : Option Addr} {k : Nat} (hn : (Builtin.firstCells inf.size 0 (.slice a' 0 k)).run P w = .ok #[] w) :
  (Builtin.append_ #[T, T] ty #[.slice a 0 0, .slice a' 0 k]).run P w = .ok (.slice a 0 0) w := by
 cases a <;> simp [Builtin.append_, run_underlying ht, sizeOf, typeInfo, hi, Builtin.lenOf, hn, storeCells]
theorem own_nil (h : Own B0 X A w μ ownN) {k : Nat} {e : TypeId} {sz : Nat} {f : Nat → List SV} (hk : μ k = none) (hbl : ownN[k]? = some (.row e sz 0 f none)) {a : Option Addr} :
  Own B0 X A w (μ.set k (.slice a 0 0)) ownN ∧ Keeps w w (held A μ) (held A (μ.set k (.slice a 0 0))) μ (μ.set k (.slice a 0 0)) := by
 have hkp : Keeps w w (held A μ) (held A (μ.set k (.slice a 0 0))) μ (μ.set k (.slice a 0 0)) := by
  refine ⟨Nat.le_refl _, fun _ _ _ => rfl, fun b hb hh => ?_, fun j y hy => ?_⟩
  ·
   rcases hh with hh | ⟨j, y, hj, hy⟩
   ·
    exact .inl hh
   ·
    unfold Mu.set at hj
    split at hj
    ·
     cases hj; exact absurd hy has_zero
    ·
     exact .inr ⟨j, y, hj, hy⟩
  ·
   unfold Mu.set
   split
   ·
    subst_vars; rw [hk] at hy; cases hy
   ·
    exact hy
 have old : ∀ j y b, Mu.set μ k (.slice a 0 0) j = some y → Has y b → μ j = some y := by
  intro j y b hj hy
  unfold Mu.set at hj
  split at hj
  ·
   cases hj; exact absurd hy has_zero
  ·
   exact hj
 refine ⟨⟨fun j y hj => ?_, fun j j' y y' b hj hj' hy hy' => h.inj j j' y y' b (old j y b hj hy) (old j' y' b hj' hy') hy hy', fun j y b hj hy => h.rng j y b (old j y b hj hy) hy, h.bnd⟩, hkp⟩
 by_cases e' : j = k
 ·
  subst e'
  have : y = .slice a 0 0 := by simpa [Mu.set] using hj.symm
  subst this
  exact ⟨_, hbl, a, 0, rfl, Nat.le_refl _, by simp [maxLen], .inl rfl, fun i hi => absurd hi (Nat.not_lt_zero _), .inl rfl⟩
 ·
  have hj' : μ j = some y := by simpa [Mu.set, e'] using hj
  obtain ⟨bl', e1, hb⟩ := h.blk j y hj'
  exact ⟨bl', e1, hb.keep hkp (fun _ _ => rfl)⟩
theorem Own.more {own' : List Blk} (h : Own B0 X A w μ own) (hs : ∀ (k : Nat) (bl : Blk), own[k]? = some bl → own'[k]? = some bl) : Own B0 X A w μ own' :=
 ⟨fun k x hx => by obtain ⟨bl, e, hb⟩ := h.blk k x hx; exact ⟨bl, hs _ _ e, hb⟩, h.inj, h.rng, h.bnd⟩
theorem app_get {own : List Blk} {bl : Blk} (k : Nat) (b : Blk) (h : own[k]? = some b) : (own ++ [bl])[k]? = some b := by
 rw [List.getElem?_append_left (List.getElem?_eq_some_iff.1 h).1]; exact h
theorem app_cells {w' : World} {H' : Nat → Prop} {μ' : Mu} {sz n m : Nat} {f g : Nat → List SV} {us : List Value} {o : Nat} (hlf : ∀ i, i < n → (f i).length = sz ∧ (f i).all SV.pure = true) (hlg : ∀ i, i < m → (g i).length = sz ∧ (g i).all SV.pure = true)
  (hf : ∀ (i j : Nat) (s : SV) (v : Value), i < n → (f i)[j]? = some s → us[o + i * sz + j]? = some v → D w' H' μ' s v) (hg : ∀ (i j : Nat) (s : SV) (v : Value), i < m → (g i)[j]? = some s → us[o + (n + i) * sz + j]? = some v → D w' H' μ' s v) :
  (∀ i, i < n + m → ((fun j => if j < n then f j else g (j - n)) i).length = sz ∧ ((fun j => if j < n then f j else g (j - n)) i).all SV.pure = true) ∧
   ∀ (i j : Nat) (s : SV) (v : Value), i < n + m → ((fun j => if j < n then f j else g (j - n)) i)[j]? = some s → us[o + i * sz + j]? = some v → D w' H' μ' s v := by
 refine ⟨fun i hi => ?_, fun i j s v hi hs hv => ?_⟩
 ·
  show (if i < n then f i else g (i - n)).length = sz ∧ (if i < n then f i else g (i - n)).all SV.pure = true
  split
  ·
   exact hlf i ‹_›
  ·
   exact hlg _ (by omega)
 ·
  replace hs : (if i < n then f i else g (i - n))[j]? = some s := hs
  split at hs
  ·
   exact hf i j s v ‹_› hs hv
  ·
   exact hg (i - n) j s v (by omega) hs (by rw [show n + (i - n) = i from by omega]; exact hv)
end
section
variable {P : Program} {w : World} {μ : Mu} {B0 : Nat} {X A : Nat → Prop} {own ownN : List Blk}
theorem get_app {α : Type} {a b c : List α} {i : Nat} {v : α} (h : (a ++ b ++ c)[i]? = some v) : (i < a.length → a[i]? = some v) ∧ (a.length ≤ i → i < a.length + b.length → b[i - a.length]? = some v) := by
 refine ⟨fun hi => ?_, fun h1 h2 => ?_⟩
 ·
  rwa [List.append_assoc, List.getElem?_append_left hi] at h
 ·
  rwa [List.append_assoc, List.getElem?_append_right h1, List.getElem?_append_left (by omega)] at h
theorem idx_lt {i j n sz : Nat} (hi : i < n) (hj : j < sz) : i * sz + j < n * sz := by
 have : i * sz + sz ≤ n * sz := by rw [← Nat.succ_mul]; exact Nat.mul_le_mul_right _ hi
 omega
set_option maxHeartbeats 1000000 in
theorem append_sound (hO : Own B0 X A w μ own) (hB : B0 ≤ w.heap.size) (hfresh : μ own.length = none) {T ty : TypeId} {x y : SV} {v u : Value} {pre : Prop} {k : Nat} {own' : List Blk} {new : Bool} (hx : D w (held A μ) μ x v) (hy : D w (held A μ) μ y u)
  (he : evAppend P own T x y = some (pre, k, own', new)) (hp : pre) :
  ∃ r w' μ', (Builtin.append_ #[T, T] ty #[v, u]).run P w = .ok r w' ∧ D w' (held A μ') μ' (.osl k) r ∧
   ((new = true ∧ After B0 X A w w' μ μ' own' ∧ ∀ j, j ≠ own.length → μ' j = μ j) ∨ (new = false ∧ After' [k] B0 X A w w' μ μ' own' ∧ ∀ j, j ≠ k → μ' j = μ j)) := by
 simp only [evAppend, Option.bind_eq_some_iff] at he
 obtain ⟨e, hT, inf, hi, z, hz, ⟨m, g⟩, hel, he⟩ := he
 have ht := isSliceB_sound hT
 split at he
 rotate_left
 ·
  cases he
 rename_i hzc
 obtain ⟨hzl, hpos, hzc⟩ := hzc
 obtain ⟨inf', zv, hi', hzv, rfl, hzD⟩ := zero_sound (w := w) (H := held A μ) (μ := μ) hz
 rw [hi] at hi'
 cases hi'
 have hzs : zv.cells.size = inf.size := by simpa using hzl
 have hzone : ∀ v ∈ zv.cells.toList, v.oneCell' = true := one_of_all hzD hzc
 obtain ⟨a', c', news, rfl, hmc, hcx, hnl, hn1, hgl, hnr, hnD⟩ := elems_sound hO (fun _ _ h => h) hy hel
 have hfw : (Builtin.firstCells inf.size m (.slice a' m c')).run P w = .ok news.toArray w := run_firstCells_of hnl hnr
 have hfd : (Builtin.firstCells inf.size m (.slice a' m c')).run P w.drew = .ok news.toArray w.drew := run_firstCells_of hnl hnr
 unfold appendTo at he
 split at he
 ·
  -- nil
  simp only [Option.some.injEq, Prod.mk.injEq] at he
  obtain ⟨rfl, rfl, rfl, rfl⟩ := he
  obtain ⟨h63, hb⟩ := hp
  cases hx
  have hO' : Own B0 X A w μ (own ++ [.row e inf.size m g none]) := hO.more app_get
  have hbl : (own ++ [Blk.row e inf.size m g none])[own.length]? = some (.row e inf.size m g none) := by simp
  rcases Nat.eq_zero_or_pos m with h0 | h0
  ·
   subst h0
   obtain rfl : news = [] := List.eq_nil_of_length_eq_zero (by simpa using hnl)
   obtain ⟨o1, o2⟩ := own_nil hO' hfresh hbl (a := none)
   exact ⟨_, w, _, run_append_none ht hi hfw, .osl (by simp [Mu.set]), .inl ⟨rfl, ⟨o1, Fr.refl _ _ _, o2⟩, fun j hj => by simp [Mu.set, hj]⟩⟩
  ·
   have hr := run_append_new (P := P) (w := w) (ty := ty) ht hi hzv (a := none) (a' := a') (n := 0) (m := m) (k := c') (c := 0) (olds := []) (news := news) (by simp [Builtin.firstCells]) hfd (by omega) (by omega) (by simpa using hb)
   simp only [Nat.zero_add, List.nil_append] at hr
   have hdr := hO'.drew
   have hcap1 := grownCap_ge w m 0 e
   have hcap2 := grownCap_le_maxLen w m 0 e (by simp only [maxLen]; omega)
   obtain ⟨o1, o2⟩ := own_new (x := .slice (some ⟨w.heap.size, 0, none⟩) m (grownCap w m 0 e)) hdr hB hfresh hbl (.cells (news ++ (Builtin.zeroCells zv.cells (grownCap w m 0 e - m)).toList).toArray e) (fun b hb => (has_pos_iff (by omega)).1 hb) (fun μ' _ hkp => by
    refine ⟨_, _, rfl, hcap1, hcap2, .inl rfl, hgl, .inr ⟨w.heap.size, 0, _, by omega, rfl, heap_alloc_new w.drew _, ?_, fun v hv => ?_, fun i j s v hi' hs hv => ?_⟩⟩
    ·
     simp only [List.length_append, hnl, Array.length_toList, size_zeroCells, hzs, ← Nat.add_mul, Nat.zero_add]
     rw [show m + (grownCap w m 0 e - m) = grownCap w m 0 e from by omega]
     exact Nat.le_refl _
    ·
     rcases List.mem_append.1 hv with hv | hv
     ·
      exact hn1 v hv
     ·
      exact zeroCells_one hzone _ v hv
    ·
     have hj : j < inf.size := by rw [← (hgl i hi').1]; exact (List.getElem?_eq_some_iff.1 hs).1
     rw [Nat.zero_add, List.getElem?_append_left (by rw [hnl]; exact idx_lt hi' hj)] at hv
     exact ((hnD i j s v hi' hs hv).keep Keeps.drew).keep hkp)
   refine ⟨_, _, _, hr, .osl (by simp [Mu.set]), .inl ⟨rfl, ⟨o1, Fr.drew.trans (Fr.alloc _ hB), ?_⟩, fun j hj => by simp [Mu.set, hj]⟩⟩
   exact ⟨o2.size, o2.block, o2.less, o2.own⟩
 ·
  -- a view without room
  rename_i sz n f c
  split at he
  rotate_left
  ·
   cases he
  rename_i hsz
  subst hsz
  simp only [Option.some.injEq, Prod.mk.injEq] at he
  obtain ⟨rfl, rfl, rfl, rfl⟩ := he
  obtain ⟨hnc, hnm, h63, hb⟩ := hp
  obtain ⟨a, c0, olds, rfl, hnc0, hcx0, hol, ho1, hfl, hor, hoD⟩ := elems_sound hO (fun _ _ h => h) hx (sz := inf.size) (n := n) (f := f) (by simp [elemsSV])
  have hc0 : c0 = n := by
   cases hx with
   | sl a b o m g hm hx hc hrow hl hd =>
    rcases hc with hc | hc
    ·
     cases hc
    ·
     cases hc; exact hnc.symm
  subst hc0
  have hO' : Own B0 X A w μ (own ++ [.row e inf.size (c0 + m) (fun j => if j < c0 then f j else g (j - c0)) none]) := hO.more app_get
  have hbl : (own ++ [Blk.row e inf.size (c0 + m) (fun j => if j < c0 then f j else g (j - c0)) none])[own.length]? = some (.row e inf.size (c0 + m) (fun j => if j < c0 then f j else g (j - c0)) none) := by simp
  rcases Nat.eq_zero_or_pos m with h0 | h0
  ·
   subst h0
   obtain rfl : c0 = 0 := by omega
   obtain rfl : news = [] := List.eq_nil_of_length_eq_zero (by simpa using hnl)
   obtain ⟨o1, o2⟩ := own_nil hO' hfresh hbl (a := a)
   exact ⟨_, w, _, run_append_none ht hi hfw, .osl (by simp [Mu.set]), .inl ⟨rfl, ⟨o1, Fr.refl _ _ _, o2⟩, fun j hj => by simp [Mu.set, hj]⟩⟩
  ·
   have hof : (Builtin.firstCells inf.size c0 (.slice a c0 c0)).run P w.drew = .ok olds.toArray w.drew := run_firstCells_of hol hor
   have hr := run_append_new (P := P) (w := w) (ty := ty) ht hi hzv (olds := olds) (news := news) hof hfd (by omega) h63 hb
   have hdr := hO'.drew
   have hcap1 := grownCap_ge w (c0 + m) c0 e
   have hcap2 := grownCap_le_maxLen w (c0 + m) c0 e (by simp only [maxLen]; omega)
   obtain ⟨o1, o2⟩ := own_new (x := .slice (some ⟨w.heap.size, 0, none⟩) (c0 + m) (grownCap w (c0 + m) c0 e)) hdr hB hfresh hbl (.cells (olds ++ news ++ (Builtin.zeroCells zv.cells (grownCap w (c0 + m) c0 e - (c0 + m))).toList).toArray e) (fun b hb => (has_pos_iff (by omega)).1 hb) (fun μ' _ hkp => by
    have hcells := app_cells (w' := w.drew.alloc (.cells (olds ++ news ++ (Builtin.zeroCells zv.cells (grownCap w (c0 + m) c0 e - (c0 + m))).toList).toArray e)) (H' := held A μ') (μ' := μ') (o := 0) (us := olds ++ news ++ (Builtin.zeroCells zv.cells (grownCap w (c0 + m) c0 e - (c0 + m))).toList) hfl hgl
     (fun i j s v hi' hs hv => by
      have hj : j < inf.size := by rw [← (hfl i hi').1]; exact (List.getElem?_eq_some_iff.1 hs).1
      have hlt := idx_lt hi' hj
      have hv' := (get_app hv).1 (by rw [hol]; omega)
      rw [Nat.zero_add] at hv'
      exact ((hoD i j s v hi' hs hv').keep Keeps.drew).keep hkp)
     (fun i j s v hi' hs hv => by
      have hj : j < inf.size := by rw [← (hgl i hi').1]; exact (List.getElem?_eq_some_iff.1 hs).1
      have hlt := idx_lt hi' hj
      have hmul : (c0 + i) * inf.size = c0 * inf.size + i * inf.size := Nat.add_mul _ _ _
      have := (get_app hv).2 (by rw [hol]; omega) (by rw [hol, hnl]; omega)
      rw [hol, show 0 + (c0 + i) * inf.size + j - c0 * inf.size = i * inf.size + j from by omega] at this
      exact ((hnD i j s v hi' hs this).keep Keeps.drew).keep hkp)
    refine ⟨_, _, rfl, hcap1, hcap2, .inl rfl, hcells.1, .inr ⟨w.heap.size, 0, _, by omega, rfl, heap_alloc_new w.drew _, ?_, fun v hv => ?_, hcells.2⟩⟩
    ·
     simp only [List.length_append, hol, hnl, Array.length_toList, size_zeroCells, hzs, ← Nat.add_mul, Nat.zero_add]
     rw [show c0 + m + (grownCap w (c0 + m) c0 e - (c0 + m)) = grownCap w (c0 + m) c0 e from by omega]
     exact Nat.le_refl _
    ·
     rcases List.mem_append.1 hv with hv | hv
     ·
      rcases List.mem_append.1 hv with hv | hv
      ·
       exact ho1 v hv
      ·
       exact hn1 v hv
     ·
      exact zeroCells_one hzone _ v hv)
   refine ⟨_, _, _, hr, .osl (by simp [Mu.set]), .inl ⟨rfl, ⟨o1, Fr.drew.trans (Fr.alloc _ hB), ?_⟩, fun j hj => by simp [Mu.set, hj]⟩⟩
   exact ⟨o2.size, o2.block, o2.less, o2.own⟩
 ·
  rename_i k0
  split at he
  rotate_left
  ·
   cases he
  rename_i e' sz n f c hk
  split at he
  rotate_left
  ·
   cases he
  rename_i hes
  obtain ⟨rfl, rfl⟩ := hes
  simp only [Option.some.injEq, Prod.mk.injEq] at he
  obtain ⟨rfl, rfl, rfl, rfl⟩ := he
  obtain ⟨h63, hb⟩ := hp
  cases hx with
  | osl h =>
   obtain ⟨bl, e1, hok⟩ := hO.blk _ _ h
   rw [hk] at e1
   cases e1
   obtain ⟨a, cap, e2, hnc, hcm, hcc, hfl, hrest⟩ := hok
   cases e2
   rename_i cap a
   have grow : cap < n + m → ∀ (olds : List Value), olds.length = n * inf.size → (∀ v ∈ olds, v.oneCell' = true) → (Builtin.firstCells inf.size n (.slice a n cap)).run P w.drew = .ok olds.toArray w.drew →
     (∀ (i j : Nat) (s : SV) (v : Value), i < n → (f i)[j]? = some s → olds[i * inf.size + j]? = some v → D w (held A μ) μ s v) →
     ∃ r w' μ', (Builtin.append_ #[T, T] ty #[.slice a n cap, .slice a' m c']).run P w = .ok r w' ∧ D w' (held A μ') μ' (.osl k0) r ∧
      ((false = true ∧ After B0 X A w w' μ μ' ((own.map (Blk.kill [k0])).set k0 (.row e' inf.size (n + m) (fun j => if j < n then f j else g (j - n)) none)) ∧ ∀ j, j ≠ own.length → μ' j = μ j) ∨
       (false = false ∧ After' [k0] B0 X A w w' μ μ' ((own.map (Blk.kill [k0])).set k0 (.row e' inf.size (n + m) (fun j => if j < n then f j else g (j - n)) none)) ∧ ∀ j, j ≠ k0 → μ' j = μ j)) := by
    intro hg olds hol ho1 hof hoD
    have hr := run_append_new (P := P) (w := w) (ty := ty) ht hi hzv (olds := olds) (news := news) hof hfd hg h63 hb
    have hcap1 := grownCap_ge w (n + m) cap e'
    have hcap2 := grownCap_le_maxLen w (n + m) cap e' (by simp only [maxLen]; omega)
    have ha := own_change (w' := w.drew.alloc (.cells (olds ++ news ++ (Builtin.zeroCells zv.cells (grownCap w (n + m) cap e' - (n + m))).toList).toArray e')) (y := .slice (some ⟨w.heap.size, 0, none⟩) (n + m) (grownCap w (n + m) cap e'))
     (bl := .row e' inf.size (n + m) (fun j => if j < n then f j else g (j - n)) none) hO hB h ⟨_, _, _, rfl⟩ ⟨_, _, _, rfl⟩
     (.inr ⟨w.heap.size, blkOf_pos (by omega), Nat.le_refl _, by simp, hB⟩) (by simp) (fun b hb' _ => RowKit.Below.heap_alloc w.drew _ b hb') rfl rfl rfl (fun hkp => by
      have hcells := app_cells (w' := w.drew.alloc (.cells (olds ++ news ++ (Builtin.zeroCells zv.cells (grownCap w (n + m) cap e' - (n + m))).toList).toArray e'))
       (H' := held A (μ.set k0 (.slice (some ⟨w.heap.size, 0, none⟩) (n + m) (grownCap w (n + m) cap e')))) (μ' := μ.set k0 (.slice (some ⟨w.heap.size, 0, none⟩) (n + m) (grownCap w (n + m) cap e'))) (o := 0) (us := olds ++ news ++ (Builtin.zeroCells zv.cells (grownCap w (n + m) cap e' - (n + m))).toList) hfl hgl
       (fun i j s v hi' hs hv => by
        have hj : j < inf.size := by rw [← (hfl i hi').1]; exact (List.getElem?_eq_some_iff.1 hs).1
        have hlt := idx_lt hi' hj
        have hv' := (get_app hv).1 (by rw [hol]; omega)
        rw [Nat.zero_add] at hv'
        exact pure_change hkp (hoD i j s v hi' hs hv') (List.all_eq_true.1 (hfl i hi').2 s (List.mem_of_getElem? hs)))
       (fun i j s v hi' hs hv => by
        have hj : j < inf.size := by rw [← (hgl i hi').1]; exact (List.getElem?_eq_some_iff.1 hs).1
        have hlt := idx_lt hi' hj
        have hmul : (n + i) * inf.size = n * inf.size + i * inf.size := Nat.add_mul _ _ _
        have := (get_app hv).2 (by rw [hol]; omega) (by rw [hol, hnl]; omega)
        rw [hol, show 0 + (n + i) * inf.size + j - n * inf.size = i * inf.size + j from by omega] at this
        exact pure_change hkp (hnD i j s v hi' hs this) (List.all_eq_true.1 (hgl i hi').2 s (List.mem_of_getElem? hs)))
      refine ⟨_, _, rfl, hcap1, hcap2, .inl rfl, hcells.1, .inr ⟨w.heap.size, 0, _, by omega, rfl, heap_alloc_new w.drew _, ?_, fun v hv => ?_, hcells.2⟩⟩
      ·
       simp only [List.length_append, hol, hnl, Array.length_toList, size_zeroCells, hzs, ← Nat.add_mul, Nat.zero_add]
       rw [show n + m + (grownCap w (n + m) cap e' - (n + m)) = grownCap w (n + m) cap e' from by omega]
       exact Nat.le_refl _
      ·
       rcases List.mem_append.1 hv with hv | hv
       ·
        rcases List.mem_append.1 hv with hv | hv
        ·
         exact ho1 v hv
        ·
         exact hn1 v hv
       ·
        exact zeroCells_one hzone _ v hv)
    exact ⟨_, _, _, hr, .osl (by simp [Mu.set]), .inr ⟨rfl, ha, fun j hj => by simp [Mu.set, hj]⟩⟩
   rcases hrest with rfl | ⟨b, o, vs, hmp, rfl, hh, ho, h1, hd⟩
   ·
    obtain rfl : n = 0 := by omega
    rcases Nat.eq_zero_or_pos m with h0 | h0
    ·
     subst h0
     obtain rfl : news = [] := List.eq_nil_of_length_eq_zero (by simpa using hnl)
     have ha := own_change (w' := w) (y := .slice a 0 0) (bl := .row e' inf.size (0 + 0) (fun j => if j < 0 then f j else g (j - 0)) none) hO hB h ⟨_, _, _, rfl⟩ ⟨_, _, _, rfl⟩ (.inl rfl) (Nat.le_refl _) (fun _ _ _ => rfl) rfl rfl rfl
      (fun _ => ⟨a, 0, rfl, Nat.le_refl _, by simp [maxLen], .inl rfl, fun i hi => absurd hi (Nat.not_lt_zero _), .inl rfl⟩)
     exact ⟨_, w, _, run_append_none ht hi hfw, .osl (by simp [Mu.set]), .inr ⟨rfl, ha, fun j hj => by simp [Mu.set, hj]⟩⟩
    ·
     exact grow (by omega) [] (by simp) (by simp) (run_firstCells_of (w := w.drew) (by simp) (fun h => absurd h (Nat.lt_irrefl _))) (fun i j s v hi' => absurd hi' (Nat.not_lt_zero _))
   ·
    by_cases hroom : n + m ≤ cap
    ·
     have hle : (n + m) * inf.size ≤ cap * inf.size := Nat.mul_le_mul_right _ hroom
     have hadd : (n + m) * inf.size = n * inf.size + m * inf.size := Nat.add_mul _ _ _
     have hr := run_append_in (P := P) (ty := ty) (o := o) ht hi hh hfw hroom (by rw [hnl]; omega) hn1
     have hlt := lt_of_row hh
     have ha := own_change (w' := putRow w b (over vs (o + n * inf.size) news) e') (y := .slice (some ⟨b, o, none⟩) (n + m) cap)
      (bl := .row e' inf.size (n + m) (fun j => if j < n then f j else g (j - n)) none) hO hB h ⟨_, _, _, rfl⟩ ⟨_, _, _, rfl⟩ (.inl ((blkOf_pos hmp).trans (blkOf_pos hmp).symm)) (by rw [putRow_size]; exact Nat.le_refl _) (fun i _ hne => putRow_other (fun e => hne (by subst e; exact blkOf_pos hmp))) rfl rfl rfl (fun hkp => by
       have hcells := app_cells (w' := putRow w b (over vs (o + n * inf.size) news) e') (H' := held A (μ.set k0 (.slice (some ⟨b, o, none⟩) (n + m) cap))) (μ' := μ.set k0 (.slice (some ⟨b, o, none⟩) (n + m) cap)) (o := o)
        (us := over vs (o + n * inf.size) news) hfl hgl
        (fun i j s v hi' hs hv => by
         have hj : j < inf.size := by rw [← (hfl i hi').1]; exact (List.getElem?_eq_some_iff.1 hs).1
         have hlt := idx_lt hi' hj
         rw [over_get _ _ _ _ (by rw [hnl]; omega), if_neg (by omega)] at hv
         exact pure_change hkp (hd i j s v hi' hs hv) (List.all_eq_true.1 (hfl i hi').2 s (List.mem_of_getElem? hs)))
        (fun i j s v hi' hs hv => by
         have hj : j < inf.size := by rw [← (hgl i hi').1]; exact (List.getElem?_eq_some_iff.1 hs).1
         have hlt := idx_lt hi' hj
         have hmul : (n + i) * inf.size = n * inf.size + i * inf.size := Nat.add_mul _ _ _
         rw [over_get _ _ _ _ (by rw [hnl]; omega), if_pos (by rw [hnl]; omega), show o + (n + i) * inf.size + j - (o + n * inf.size) = i * inf.size + j from by omega] at hv
         exact pure_change hkp (hnD i j s v hi' hs hv) (List.all_eq_true.1 (hgl i hi').2 s (List.mem_of_getElem? hs)))
       exact ⟨_, _, rfl, hroom, hcm, .inl rfl, hcells.1, .inr ⟨b, o, _, hmp, rfl, putRow_same hlt, by rw [over_length]; exact ho, over_mem _ _ _ h1 hn1, hcells.2⟩⟩)
     exact ⟨_, _, _, hr, .osl (by simp [Mu.set]), .inr ⟨rfl, ha, fun j hj => by simp [Mu.set, hj]⟩⟩
    ·
     have hle : n * inf.size ≤ cap * inf.size := Nat.mul_le_mul_right _ hnc
     refine grow (by omega) ((vs.drop o).take (n * inf.size)) (by simp; omega) (fun v hv => h1 v (List.mem_of_mem_drop (List.mem_of_mem_take hv))) ?_ (fun i j s v hi' hs hv => hd i j s v hi' hs (by rw [Nat.add_assoc]; exact (get_drop_take hv).2))
     refine run_firstCells_of (w := w.drew) (by simp; omega) (fun _ => ⟨_, rfl, rfl, fun j u hu => ?_⟩)
     rw [Addr.add_lit, cell_row (w := w.drew) hh]
     exact (get_drop_take hu).2
 ·
  cases he
def evReslice (P : Program) (own : List Blk) (T : TypeId) (k : Nat) (lo hi : Option (Option SV)) : Option (Prop × List Blk) :=
 (isSliceB P T).bind fun e => match own[k]? with
 | some (.row e' sz n f c) => (bound 0 lo).bind fun l => (bound n hi).bind fun h =>
  if sizeB P e = some sz then some (0 ≤ l ∧ l ≤ h ∧ h ≤ n, (own.map (Blk.kill [k])).set k (.row e' sz (h - l).toNat (fun j => f (l.toNat + j)) (c.map fun m => m - l.toNat))) else none
 | _ => none
theorem reslice_sound (hO : Own B0 X A w μ own) (hB : B0 ≤ w.heap.size) {T : TypeId} {k : Nat} {v : Value} {lo hi : Option (Option SV)} {vl vh : Option Value} {pre : Prop} {own' : List Blk} (hx : D w (held A μ) μ (.osl k) v)
  (hlo : DO w (held A μ) μ lo vl) (hhi : DO w (held A μ) μ hi vh) (he : evReslice P own T k lo hi = some (pre, own')) (hp : pre) :
  ∃ r μ', (Instr.sliceAt T v vl vh none).run P w = .ok r w ∧ D w (held A μ') μ' (.osl k) r ∧ After' [k] B0 X A w w μ μ' own' ∧ own'.length = own.length ∧ k < own.length ∧ ∀ j, j ≠ k → μ' j = μ j := by
 have bnd : ∀ {d : Int} {o : Option (Option SV)} {u : Option Value} {n : Int}, DO w (held A μ) μ o u → bound d o = some n → (u = none ∧ o = none ∧ n = d) ∨ ∃ k, u = some (.int k n) ∧ o.isNone = false := by
  intro d o u n hd hb
  unfold bound at hb
  split at hb
  ·
   cases hb
   cases u with
   | none => exact .inl ⟨rfl, rfl, rfl⟩
   | some _ => simp [DO] at hd
  ·
   cases hb
   cases u with
   | none => simp [DO] at hd
   | some u => simp only [DO] at hd; cases hd; exact .inr ⟨_, rfl, rfl⟩
  ·
   cases hb
 simp only [evReslice, Option.bind_eq_some_iff] at he
 obtain ⟨e, hT, he⟩ := he
 have ht := isSliceB_sound hT
 have hTe : P.elem T = e := by simp [Program.elem, ht]
 split at he
 rotate_left
 ·
  cases he
 rename_i e' sz n f c hk
 simp only [Option.bind_eq_some_iff] at he
 obtain ⟨l, hl', h, hh', he⟩ := he
 split at he
 rotate_left
 ·
  cases he
 rename_i hsz
 simp only [Option.some.injEq, Prod.mk.injEq] at he
 obtain ⟨rfl, rfl⟩ := he
 obtain ⟨h0, h1, h2⟩ := hp
 simp only [sizeB, Option.map_eq_some_iff] at hsz
 obtain ⟨inf, hinf, rfl⟩ := hsz
 cases hx with
 | osl hmu =>
  obtain ⟨bl, e1, hok⟩ := hO.blk _ _ hmu
  rw [hk] at e1
  cases e1
  obtain ⟨a, m, e2, hnm, hmx, hc, hfl, hrest⟩ := hok
  cases e2
  rename_i m a
  have hb1 : (Instr.sliceBounds true n m vl vh none).run P w = .ok (l.toNat, h.toNat, m) w := by
   rcases bnd hlo hl' with ⟨rfl, _, rfl⟩ | ⟨kl, rfl, _⟩ <;> rcases bnd hhi hh' with ⟨rfl, _, rfl⟩ | ⟨kh, rfl, _⟩
   ·
    simp [Instr.sliceBounds]
   ·
    simp [Instr.sliceBounds, run_sliceBound w kh h m _ (by omega) (by omega)]
   ·
    simp [Instr.sliceBounds, run_sliceBound w kl l n _ (by omega) (by omega)]
   ·
    have := run_sliceBound (P := P) w kl l h.toNat .sliceB (by omega) (by omega)
    simp [Instr.sliceBounds, run_sliceBound w kh h m _ (by omega) (by omega), this]
  have hle : l.toNat ≤ m := by omega
  refine ⟨.slice (if m = l.toNat then a else a.map (·.add (l.toNat * inf.size))) (h.toNat - l.toNat) (m - l.toNat), μ.set k (.slice (if m = l.toNat then a else a.map (·.add (l.toNat * inf.size))) (h.toNat - l.toNat) (m - l.toNat)), ?_, .osl (by simp [Mu.set]), own_change_g hO hB hmu ⟨_, _, _, rfl⟩ ⟨_, _, _, rfl⟩ ?_ (Nat.le_refl _) (fun _ _ _ => rfl) rfl rfl rfl (fun hkp => ?_), by simp, (List.getElem?_eq_some_iff.1 hk).1, fun j hj => by simp [Mu.set, hj]⟩
  ·
   simp only [Instr.sliceAt, Sem.run_bind, run_underlying ht, Result.andThen_ok, Instr.slice, hb1, hTe, run_sizeOf hinf, Sem.run_pure]
  ·
   by_cases q : m = l.toNat
   ·
    left
    rw [q, Nat.sub_self]
    exact blkOf_zero
   ·
    right; left
    rw [if_neg q]
    rcases hrest with h3 | ⟨b, o, vs, hmp, rfl, hh, ho, h1', hd⟩
    ·
     omega
    ·
     simp only [Option.map_some, Addr.add_lit]
     exact (blkOf_pos (by omega)).trans (blkOf_pos hmp).symm
  ·
   have eh : (h - l).toNat = h.toNat - l.toNat := by omega
   rw [eh]
   refine ⟨if m = l.toNat then a else a.map (·.add (l.toNat * inf.size)), m - l.toNat, rfl, by omega, by omega, ?_, fun i hi => hfl _ (by omega), ?_⟩
   ·
    rcases hc with rfl | rfl
    ·
     exact .inl rfl
    ·
     exact .inr rfl
   ·
    by_cases q : m = l.toNat
    ·
     left; omega
    ·
     right
     rcases hrest with h3 | ⟨b, o, vs, hmp, rfl, hh, ho, h1', hd⟩
     ·
      omega
     ·
      have hmul : (m - l.toNat) * inf.size = m * inf.size - l.toNat * inf.size := Nat.sub_mul _ _ _
      have hmle : l.toNat * inf.size ≤ m * inf.size := Nat.mul_le_mul_right _ hle
      refine ⟨b, o + l.toNat * inf.size, vs, by omega, by rw [if_neg q]; simp [Addr.add_lit], hh, by omega, h1', fun i j s v hi hs hv => ?_⟩
      refine pure_change hkp (hd (l.toNat + i) j s v (by omega) hs ?_) (List.all_eq_true.1 (hfl _ (by omega)).2 s (List.mem_of_getElem? hs))
      rwa [show o + (l.toNat + i) * inf.size + j = o + l.toNat * inf.size + i * inf.size + j from by rw [Nat.add_mul]; omega]
end
def intsSV : List IntKind → List SV → Option (List Int)
 | [], [] => some []
 | k :: ks, .int k' n :: r => if k = k' then (intsSV ks r).map (n :: ·) else none
 | _, _ => none
def keySV : KT → SV → Option (List Int)
 | .int1 k, .int k' n => if k = k' then some [n] else none
 | .ints ks, .agg cs => intsSV ks cs
 | .str, .con (.string s) => some (s.data.toList.map fun b => (b.toNat : Int))
 | _, _ => none
section
variable {w : World} {H : Nat → Prop} {μ : Mu}
theorem intsSV_spec : ∀ {ks : List IntKind} {cs : List SV} {q : List Int} {vs : List Value}, intsSV ks cs = some q → vs.length = cs.length → (∀ (i : Nat) (s : SV) (v : Value), cs[i]? = some s → vs[i]? = some v → D w H μ s v) →
  vs = zipInts ks q ∧ q.length = ks.length := by
 intro ks
 induction ks with
 | nil =>
  intro cs q vs h hl _
  match cs, h with
  | [], h => simp [intsSV] at h; subst h; simp at hl; subst hl; exact ⟨rfl, rfl⟩
  | s :: _, h => simp [intsSV] at h
 | cons k ks ih =>
  intro cs q vs h hl hd
  match cs, h with
  | [], h => simp [intsSV] at h
  | .int k' n :: r, h =>
   simp only [intsSV] at h
   split at h
   ·
    rename_i e
    subst e
    simp only [Option.map_eq_some_iff] at h
    obtain ⟨q', hq, rfl⟩ := h
    match vs, hl with
    | v :: vs, hl =>
     have h0 := hd 0 _ v rfl rfl
     cases h0
     obtain ⟨e1, e2⟩ := ih (vs := vs) hq (by simpa using hl) (fun i s u hs hu => hd (i + 1) s u (by simpa using hs) (by simpa using hu))
     exact ⟨by simp [zipInts, ← e1], by simp [e2]⟩
   ·
    cases h
  | .bool _ :: _, h | .con _ :: _, h | .own _ _ :: _, h | .osl _ :: _, h | .oel _ _ _ _ :: _, h | .sl _ _ _ _ :: _, h | .rel _ _ _ _ _ :: _, h | .agg _ :: _, h | .tup _ :: _, h | .clo _ _ :: _, h | .omp _ :: _, h | .mp _ _ _ _ :: _, h | .any :: _, h => simp [intsSV] at h
theorem strOf_bytes (s : ByteArray) : strOf (s.data.toList.map fun b => (b.toNat : Int)) = s := by
 obtain ⟨⟨l⟩⟩ := s
 simp only [strOf, List.map_map]
 congr 1
 apply congrArg
 induction l with
 | nil => rfl
 | cons a l ih => simp [ih]
theorem keySV_spec {K : KT} {s : SV} {v : Value} {q : List Int} (h : keySV K s = some q) (hd : D w H μ s v) : v = kv K q ∧ okq K q := by
 unfold keySV at h
 split at h
 ·
  split at h
  ·
   rename_i e
   cases h; subst e; cases hd
   exact ⟨rfl, rfl⟩
  ·
   cases h
 ·
  cases hd with
  | agg vs hl hD =>
   obtain ⟨e1, e2⟩ := intsSV_spec h hl hD
   exact ⟨by rw [e1]; rfl, e2⟩
 ·
  cases hd
  simp only [Option.some.injEq] at h
  subst h
  refine ⟨by simp only [kv, strOf_bytes], fun n hn => ?_⟩
  simp only [List.mem_map] at hn
  obtain ⟨b, _, rfl⟩ := hn
  have := b.toNat_lt
  omega
 ·
  cases h
end
section
variable {P : Program} {w : World}
theorem mapAt_find {r : Nat} {K : KT} {ag : Bool} {has : List Int → Bool} {g : List Int → List Value} {key : TypeId} (hk : KLaw P key K) (h : MapAt w r K ag has g) {q : List Int} (hq : okq K q) :
  ∃ es clock, w.heap[r]? = some (.map es clock) ∧ (∀ e ∈ es.toList, ∃ q, e.key = kv K q ∧ okq K q ∧ has q = true ∧ e.val = mkV ag (g q)) ∧ es.toList.Pairwise (fun a b => a.key ≠ b.key) ∧ (∀ q, has q = true → okq K q ∧ ∃ e ∈ es.toList, e.key = kv K q) ∧
   ∃ x, (Instr.findKey key (kv K q) es.toList).run P w = .ok x w ∧ ((x = none ∧ has q = false ∧ ∀ e ∈ es.toList, e.key ≠ kv K q) ∨ ∃ (j : Nat) (e : MapEntry), x = some (j, mkV ag (g q)) ∧ has q = true ∧ es.toList[j]? = some e ∧ e.key = kv K q) := by
 obtain ⟨es, clock, he, h1, h2, h3⟩ := h.ex
 refine ⟨es, clock, he, h1, h3, h2, ?_⟩
 obtain ⟨x, hr, hx⟩ := hk.find w q es.toList hq (fun e hm => by obtain ⟨q', e1, e2, _⟩ := h1 e hm; exact ⟨q', e2, e1⟩)
 refine ⟨x, hr, ?_⟩
 rcases hx with ⟨rfl, hn⟩ | ⟨j, e, rfl, hj, hke⟩
 ·
  refine .inl ⟨rfl, ?_, hn⟩
  cases hb : has q with
  | false => rfl
  | true =>
   obtain ⟨_, e, hm, hke⟩ := h2 q hb
   exact absurd hke (hn e hm)
 ·
  obtain ⟨q', e1, e2, e3, e4⟩ := h1 e (List.mem_of_getElem? hj)
  have : q' = q := hk.inj q' q e2 hq (e1.symm.trans hke)
  subst this
  exact .inr ⟨j, e, by rw [e4], e3, hj, hke⟩
theorem run_getM {r : Nat} {es : Array MapEntry} {clock : Nat} (h : w.heap[r]? = some (.map es clock)) : (getObj r).run P w = .ok (.map es clock) w := by
 simp [getObj, Sem.run, h]
theorem run_lookup {T key elem : TypeId} {r : Nat} {K : KT} {ag : Bool} {has : List Int → Bool} {g : List Int → List Value} {q : List Int} {ok : Bool} (hT : P.underlying T = some (.map key elem)) (hk : KLaw P key K) (h : MapAt w r K ag has g) (hq : okq K q)
  {z : Value} (hz : has q = false → (zeroValue elem).run P w = .ok z w) :
  (Instr.lookup T (.map (some r)) (kv K q) ok).run P w = .ok (if ok then .tuple #[if has q then mkV ag (g q) else z, .bool (has q)] else if has q then mkV ag (g q) else z) w := by
 obtain ⟨es, clock, he, _, _, _, x, hr, hx⟩ := mapAt_find hk h hq
 simp only [Instr.lookup, Sem.run_bind, run_underlying hT, Result.andThen_ok, run_getM he, Sem.run_pure, hk.check w es.isEmpty q hq, hr]
 rcases hx with ⟨rfl, hh, _⟩ | ⟨j, e, rfl, hh, _⟩
 ·
  simp only [hh, Sem.run_bind, hz hh, Result.andThen_ok, Sem.run_pure, Bool.false_eq_true, if_false]
 ·
  simp only [hh, Sem.run_bind, Sem.run_pure, Result.andThen_ok, if_true]
def hasPut (has : List Int → Bool) (q : List Int) : List Int → Bool := fun p => decide (p = q) || has p
def putObj (w : World) (r : Nat) (o : Obj) : World := { w with heap := w.heap.setIfInBounds r o }
theorem putObj_same {r : Nat} {o : Obj} (h : r < w.heap.size) : (putObj w r o).heap[r]? = some o := by simp [putObj, h]
theorem putObj_other {r i : Nat} {o : Obj} (h : i ≠ r) : (putObj w r o).heap[i]? = w.heap[i]? := by simp [putObj, Array.getElem?_setIfInBounds, Ne.symm h]
theorem putObj_size {r : Nat} {o : Obj} : (putObj w r o).heap.size = w.heap.size := by simp [putObj]
theorem run_setObj {r : Nat} {es : Array MapEntry} {clock : Nat} {o' : Obj} (h : w.heap[r]? = some (.map es clock)) : (setObj r o').run P w = .ok () (putObj w r o') := by
 simp [setObj, Sem.run, putObj, h]
theorem run_mapUpdate {T key elem : TypeId} {r : Nat} {K : KT} {ag : Bool} {has : List Int → Bool} {g : List Int → List Value} {q : List Int} {us : List Value} {v : Value} (hv : v = mkV ag us) (hT : P.underlying T = some (.map key elem)) (hk : KLaw P key K) (h : MapAt w r K ag has g) (hq : okq K q) :
  ∃ o, (Instr.mapUpdate T (.map (some r)) (kv K q) v).run P w = .ok () (putObj w r o) ∧ MapAt (putObj w r o) r K ag (hasPut has q) (fun p => if p = q then us else g p) := by
 have hlt := h.lt
 obtain ⟨es, clock, he, h1, h3, h2, x, hr, hx⟩ := mapAt_find hk h hq
 subst hv
 rcases hx with ⟨rfl, hh, hn⟩ | ⟨j, e, rfl, hh, hj, hke⟩
 ·
  refine ⟨.map (es.push { key := kv K q, val := mkV ag us, born := clock }) (clock + 1), ?_, ⟨_, _, putObj_same hlt, fun e hm => ?_, fun p hp => ?_, ?_⟩⟩
  ·
   simp only [Instr.mapUpdate, Sem.run_bind, run_underlying hT, Result.andThen_ok, run_getM he, hk.check w false q hq, hr, run_setObj he]
  ·
   simp only [Array.toList_push, List.mem_append, List.mem_singleton] at hm
   rcases hm with hm | rfl
   ·
    obtain ⟨p, e1, e2, e3, e4⟩ := h1 e hm
    have : p ≠ q := fun ep => hn e hm (by rw [e1, ep])
    exact ⟨p, e1, e2, by simp [hasPut, e3], by simp only [this, if_false]; exact e4⟩
   ·
    exact ⟨q, rfl, hq, by simp [hasPut], by simp⟩
  ·
   simp only [hasPut, Bool.or_eq_true, decide_eq_true_eq] at hp
   rcases hp with rfl | hp
   ·
    exact ⟨hq, { key := kv K p, val := mkV ag us, born := clock }, by simp, rfl⟩
   ·
    obtain ⟨a, e, hm, hk'⟩ := h2 p hp
    exact ⟨a, e, by simp [hm], hk'⟩
  ·
   simp only [Array.toList_push]
   rw [List.pairwise_append]
   exact ⟨h3, List.pairwise_singleton _ _, fun a ha b hb => by simp at hb; subst hb; exact hn a ha⟩
 ·
  refine ⟨.map (es.modify j fun e => { e with key := kv K q, val := mkV ag us }) clock, ?_, ?_⟩
  ·
   have hj' : es[j]? = some e := by simpa using hj
   have hst := hk.stays w q hq
   simp only [Instr.mapUpdate, Sem.run_bind, run_underlying hT, Result.andThen_ok, run_getM he, hk.check w false q hq, hr, hj', Option.map_some, Option.getD_some, hke, hst, run_setObj he]
  ·
   have hl : (es.modify j fun e => { e with key := kv K q, val := mkV ag us }).toList = es.toList.set j { e with key := kv K q, val := mkV ag us } := by
    apply List.ext_getElem?
    intro i
    rw [Array.getElem?_toList, Array.getElem?_modify, List.getElem?_set]
    have hjl : j < es.toList.length := (List.getElem?_eq_some_iff.1 hj).1
    by_cases e1 : j = i
    ·
     subst e1
     rw [if_pos rfl, if_pos rfl, if_pos hjl, ← Array.getElem?_toList, hj]; rfl
    ·
     rw [if_neg e1, if_neg e1, Array.getElem?_toList]
   have hkeys : (es.toList.set j { e with key := kv K q, val := mkV ag us }).map (·.key) = es.toList.map (·.key) := by
    apply List.ext_getElem?
    intro i
    rw [List.getElem?_map, List.getElem?_map, List.getElem?_set]
    have hjl : j < es.toList.length := (List.getElem?_eq_some_iff.1 hj).1
    by_cases e1 : j = i
    ·
     subst e1
     rw [if_pos rfl, if_pos hjl, hj]; simp [hke]
    ·
     rw [if_neg e1]
   have hpk : (es.toList.map (·.key)).Pairwise (· ≠ ·) := List.pairwise_map.2 h3
   refine ⟨_, _, putObj_same hlt, fun e' hm => ?_, fun p hp => ?_, ?_⟩
   ·
    rw [hl] at hm
    obtain ⟨i, hi, eg⟩ := List.mem_iff_getElem.1 hm
    have hi' : (es.toList.set j { e with key := kv K q, val := mkV ag us })[i]? = some e' := by rw [List.getElem?_eq_getElem hi, eg]
    rw [List.getElem?_set] at hi'
    split at hi'
    ·
     split at hi'
     ·
      cases hi'
      exact ⟨q, rfl, hq, by simp [hasPut], by simp⟩
     ·
      cases hi'
    ·
     rename_i hne
     obtain ⟨p, e1, e2, e3, e4⟩ := h1 e' (List.mem_of_getElem? hi')
     have : p ≠ q := fun ep => by
      subst ep
      have hil : i < es.toList.length := (List.getElem?_eq_some_iff.1 hi').1
      have hjl : j < es.toList.length := (List.getElem?_eq_some_iff.1 hj).1
      have hpw := List.pairwise_iff_getElem.1 h3
      have ei : es.toList[i] = e' := (List.getElem?_eq_some_iff.1 hi').2
      have ej : es.toList[j] = e := (List.getElem?_eq_some_iff.1 hj).2
      rcases Nat.lt_or_gt_of_ne hne with hlt' | hlt'
      ·
       exact hpw j i hjl hil hlt' (by rw [ei, ej, hke]; exact e1.symm)
      ·
       exact hpw i j hil hjl hlt' (by rw [ei, ej, hke]; exact e1)
     exact ⟨p, e1, e2, by simp [hasPut, e3], by simp only [this, if_false]; exact e4⟩
   ·
    have hpp : okq K p ∧ ∃ e ∈ es.toList, e.key = kv K p := by
     simp only [hasPut, Bool.or_eq_true, decide_eq_true_eq] at hp
     rcases hp with rfl | hp
     ·
      exact h2 p hh
     ·
      exact h2 p hp
    obtain ⟨a, e0, hm, hk0⟩ := hpp
    have : kv K p ∈ (es.toList.set j { e with key := kv K q, val := mkV ag us }).map (·.key) := by rw [hkeys]; exact List.mem_map.2 ⟨e0, hm, hk0⟩
    obtain ⟨e1, hm1, hk1⟩ := List.mem_map.1 this
    exact ⟨a, e1, by rw [hl]; exact hm1, hk1⟩
   ·
    rw [hl]
    exact List.pairwise_map.1 (by rw [hkeys]; exact hpk)
end
def optO (ρ : Operand → Option SV) : Option Operand → Option (Option SV)
 | none => none
 | some x => some (ρ x)
def evCallB (E : Env) (own : List Blk) (ρ : Operand → Option SV) (c : Call) : Option (Prop × SV) :=
 match c.callee with
 | .builtin b => (c.args.toList.mapM ρ).bind fun xs => evBuiltin E.P own b c.argTypes.toList xs
 | _ => none
def mapSV (own : List Blk) : SV → Option (KT × Bool × (List Int → Bool) × (List Int → List SV))
 | .mp K ag has val => some (K, ag, has, val)
 | .omp k => match own[k]? with
  | some (.map K ag has val) => some (K, ag, has, val)
  | _ => none
 | _ => none
def zAgg (P : Program) (T : TypeId) : Option Bool := (P.info? T).bind fun i => i.zero.map fun z => match z with
 | .agg _ => true
 | _ => false
def evLookup (E : Env) (own : List Blk) (T : TypeId) (m i : SV) (ok : Bool) : Option (Prop × SV) :=
 match E.P.underlying T with
 | some (.map _ elem) => (mapSV own m).bind fun (K, ag, has, val) => if E.kt T = some K ∧ isAggB E.P elem = some ag ∧ zAgg E.P elem = some ag then
   (keySV K i).bind fun q => (asVal E.P elem (val q)).map fun s => (has q = false → zeroSV E.P elem = some (val q), if ok then .tup [s, .bool (has q)] else s)
  else none
 | _ => none
def zPtr (P : Program) (T : TypeId) : Bool := match (P.info? T).bind (·.zero) with
 | some (.pointer none) => true
 | _ => false
def evLookupP (E : Env) (own : List Blk) (T : TypeId) (m i : SV) (ok : Bool) : Option (Prop × SV) :=
 match m with
 | .omp j => match own[j]? with
  | some (.pmap K k has idx) => match E.P.underlying T with
   | some (.map _ elem) => if E.kt T = some K ∧ isAggB E.P elem = some false ∧ zPtr E.P elem = true then
     (keySV K i).map fun q => (True, if ok then .tup [.fp (has q) k (idx q) 0, .bool (has q)] else .fp (has q) k (idx q) 0) else none
   | _ => none
  | _ => evLookup E own T m i ok
 | _ => evLookup E own T m i ok
def evIndex (P : Program) (T : TypeId) (x i : SV) : Option (Prop × SV) :=
 match i with
 | .int _ n => match P.underlying T with
  | some (.array len e) => match x with
   | .agg cs => match sizeB P e with
    | some sz => if n.toNat < len ∧ cs.length = len * sz then (asVal P e ((cs.drop (n.toNat * sz)).take sz)).map fun s => (0 ≤ n, s) else none
    | none => none
   | _ => none
  | some .string => match x with
   | .con (.string s) => some (0 ≤ n ∧ n.toNat < s.size, .int .u8 (((s.data.toList.getD n.toNat 0).toNat : Nat) : Int))
   | _ => none
  | _ => none
 | _ => none
def nilRow (P : Program) (own : List Blk) (b : BinOp) (T : TypeId) : SV → SV → Option (Prop × SV)
 | .osl k, .con (.slice none 0 0) => match own[k]?, P.underlying T with
  | some (.row _ _ n _ _), some (.slice _) => match b with
   | .eql => some (True, .ub (n = 0) True)
   | .neq => some (True, .ub True (n = 0))
   | _ => none
  | _, _ => none
 | _, _ => none
def evVal (E : Env) (own : List Blk) (ρ : Operand → Option SV) (op : Op) : Option (Prop × SV) :=
 match op with
 | .move x => (ρ x).map fun s => (True, s)
 | .assign x => (ρ x).map fun s => (True, s)
 | .nilCheck x => match ρ x with
  | some (.own k o) => some (True, .own k o)
  | some (.oel k sz i o) => some (True, .oel k sz i o)
  | some (.rel sz n f i o) => some (True, .rel sz n f i o)
  | some (.clo f cs) => some (True, .clo f cs)
  | _ => none
 | .load T x => (ρ x).bind fun p => evLoad E.P own T p
 | .fieldAddr T x f => (ρ x).bind fun p => evFieldAddr E.P T f p
 | .field T x f => (ρ x).bind fun p => evField E.P T f p
 | .indexAddr T x i => (ρ x).bind fun p => (ρ i).bind fun n => evIndexAddr E.P own T p n
 | .binOp b T x y _ => (ρ x).bind fun s => (ρ y).bind fun t => match nilRow E.P own b T s t with
  | some r => some r
  | none => evBinE E b T s t
 | .unOp u _ x => (ρ x).bind fun s => evUn u s
 | .convert S T x => (ρ x).bind fun s => evConv E.P S T s
 | .extract x i => (ρ x).bind fun s => evExtract s i
 | .build T parts => (parts.toList.mapM fun (p : Nat × Operand) => (ρ p.2).map fun s => (p.1, s)).bind fun ps => evBuild E.P T ps
 | .slice T x lo hi mx => (ρ x).bind fun s => evSlice E.P own T s (optO ρ lo) (optO ρ hi) (optO ρ mx)
 | .makeFunc (.func f) first caps => if first.isEmpty then (caps.toList.mapM ρ).map fun cs => (True, .clo f cs) else none
 | .call c => evCallB E own ρ c
 | .index T x i => (ρ x).bind fun s => (ρ i).bind fun t => evIndex E.P T s t
 | .lookup T m i ok => (ρ m).bind fun s => (ρ i).bind fun t => evLookupP E own T s t ok
 | _ => none
section
variable {E : Env} {w : World} {μ : Mu} {B0 : Nat} {X A : Nat → Prop} {own ownN : List Blk} {a : Act} {ρ : Operand → Option SV}
theorem args_sound (hρ : ∀ (x : Operand) (s : SV), ρ x = some s → D w (held A μ) μ s (a.eval x)) {xs : List Operand} {ss : List SV} (h : xs.mapM ρ = some ss) :
  DL w (held A μ) μ ss (xs.map a.eval) := by
 obtain ⟨h1, h2⟩ := mapM_get h
 refine ⟨by simp [h1], fun i s v hs hv => ?_⟩
 simp only [List.getElem?_map, Option.map_eq_some_iff] at hv
 obtain ⟨x, hx, rfl⟩ := hv
 obtain ⟨y, hy, e⟩ := h2 i x hx
 rw [hs] at hy
 cases hy
 exact hρ x s e
theorem builtin_sound (hO : Own B0 X A w μ ownN) (hsub : ∀ (k : Nat) (bl : Blk), own[k]? = some bl → ownN[k]? = some bl) {b : Builtin} {ts : List TypeId} {ty : TypeId} {ss : List SV} {vs : List Value} {s : SV} {pre : Prop} {cs : Array Bool}
  (hD : DL w (held A μ) μ ss vs) (he : evBuiltin E.P own b ts ss = some (pre, s)) : ∃ r, (builtin b ts.toArray ty cs vs.toArray).run E.P w = .ok (.value r) w ∧ D w (held A μ) μ s r := by
 unfold evBuiltin at he
 split at he
 ·
  rename_i T x
  split at he
  ·
   rename_i e hT
   have hu := isSliceB_sound hT
   simp only [Option.map_eq_some_iff, Prod.mk.injEq] at he
   obtain ⟨n, hn, rfl, rfl⟩ := he
   match vs, hD with
   | [v], hD =>
    obtain ⟨ad, m, rfl, _, _⟩ := lenSV_sound hO hsub (hD.2 0 x v rfl rfl) hn
    refine ⟨_, ?_, .int⟩
    simp [builtin, Builtin.len_, run_underlying hu, goInt]
   | [], hD => exact absurd hD.1 (by simp)
   | _ :: _ :: _, hD => exact absurd hD.1 (by simp)
  ·
   cases he
 ·
  rename_i T x
  split at he
  ·
   rename_i e hT
   have hu := isSliceB_sound hT
   simp only [Option.map_eq_some_iff, Prod.mk.injEq] at he
   obtain ⟨n, hn, rfl, rfl⟩ := he
   match vs, hD with
   | [v], hD =>
    obtain ⟨ad, m, rfl⟩ := capSV_sound hO hsub (hD.2 0 x v rfl rfl) hn
    refine ⟨_, ?_, .int⟩
    simp [builtin, Builtin.cap_, run_underlying hu, goInt]
   | [], hD => exact absurd hD.1 (by simp)
   | _ :: _ :: _, hD => exact absurd hD.1 (by simp)
  ·
   cases he
 ·
  rename_i k a k' b
  cases he
  match vs, hD with
  | [u, v], hD =>
   have h1 := hD.2 0 _ u rfl rfl
   have h2 := hD.2 1 _ v rfl rfl
   cases h1; cases h2
   refine ⟨_, ?_, .int⟩
   simp [builtin, run_min2]
  | [], hD => exact absurd hD.1 (by simp)
  | [_], hD => exact absurd hD.1 (by simp)
  | _ :: _ :: _ :: _, hD => exact absurd hD.1 (by simp)
 ·
  rename_i k a k' b
  cases he
  match vs, hD with
  | [u, v], hD =>
   have h1 := hD.2 0 _ u rfl rfl
   have h2 := hD.2 1 _ v rfl rfl
   cases h1; cases h2
   refine ⟨_, ?_, .int⟩
   simp [builtin, run_max2]
  | [], hD => exact absurd hD.1 (by simp)
  | [_], hD => exact absurd hD.1 (by simp)
  | _ :: _ :: _ :: _, hD => exact absurd hD.1 (by simp)
 ·
  cases he
theorem index_sound {P : Program} {H : Nat → Prop} {T : TypeId} {x i s : SV} {v u : Value} {pre : Prop} (hx : D w H μ x v) (hi : D w H μ i u) (he : evIndex P T x i = some (pre, s)) (hp : pre) : ∃ r, (Instr.index T v u).run P w = .ok r w ∧ D w H μ s r := by
 unfold evIndex at he
 split at he
 rotate_left
 ·
  cases he
 rename_i k n
 cases hi
 split at he
 ·
  rename_i len e hu
  split at he
  rotate_left
  ·
   cases he
  rename_i cs
  split at he
  rotate_left
  ·
   cases he
  rename_i sz hsz
  split at he
  rotate_left
  ·
   cases he
  rename_i hc
  obtain ⟨hn, hl⟩ := hc
  simp only [Option.map_eq_some_iff, Prod.mk.injEq] at he
  obtain ⟨s', hs, rfl, rfl⟩ := he
  simp only [sizeB, Option.map_eq_some_iff] at hsz
  obtain ⟨inf, hinf, rfl⟩ := hsz
  cases hx with
  | agg vs hvl hD =>
   have hmul : n.toNat * inf.size + inf.size ≤ len * inf.size := by rw [← Nat.succ_mul]; exact Nat.mul_le_mul_right _ hn
   obtain ⟨d, hud, h⟩ := asVal_sound (w := w) (H := H) (μ := μ) (us := (vs.drop (n.toNat * inf.size)).take inf.size) hs (by simp; omega) (fun i s u hs hu => hD _ _ _ (get_drop_take hs).2 (get_drop_take hu).2)
   have h1 : aggD d = false → inf.size = 1 := fun hb => by
    rcases h with h | ⟨_, u, hus, _⟩
    ·
     rw [h.1] at hb; cases hb
    ·
     have := congrArg List.length hus
     simp at this
     omega
   have hp' := run_part (w := w) hud hinf vs (n.toNat * inf.size) (by omega) h1
   have hv : D w H μ s' (valOf P e ((vs.drop (n.toNat * inf.size)).take inf.size)) := by
    unfold valOf isAggB
    rw [hud]
    rcases h with ⟨ha, h⟩ | ⟨ha, u, hus, h⟩
    ·
     simp only [Option.map_some, ha, Option.getD_some, if_true]; exact h
    ·
     simp only [Option.map_some, ha, Option.getD_some, Bool.false_eq_true, if_false, hus, List.getD_cons_zero]; exact h
   refine ⟨_, ?_, hv⟩
   have hlt : n < (len : Int) := by omega
   have hin : (0 ≤ n ∧ n < (len : Int)) := ⟨hp, hlt⟩
   simp only [Instr.index, Sem.run_bind, asIntOf, Sem.run_pure, Result.andThen_ok, run_underlying hu]
   rw [if_pos hin]
   simp only [Sem.run_bind, run_sizeOf (w := w) hinf, Result.andThen_ok, hp']
 ·
  rename_i hu
  split at he
  rotate_left
  ·
   cases he
  rename_i s
  simp only [Option.some.injEq, Prod.mk.injEq] at he
  obtain ⟨rfl, rfl⟩ := he
  cases hx
  obtain ⟨h0, h1⟩ := hp
  refine ⟨_, ?_, .int⟩
  have hg : s[n.toNat]? = some s[n.toNat] := getElem?_pos s n.toNat h1
  simp only [Instr.index, Sem.run_bind, asIntOf, Sem.run_pure, Result.andThen_ok, run_underlying hu]
  rw [if_pos h0, hg, Sem.run_pure]
  congr 1
  have : s[n.toNat] = s.data.toList.getD n.toNat 0 := by
   have h2 : n.toNat < s.data.toList.length := by rw [Array.length_toList]; exact h1
   rw [List.getD_eq_getElem?_getD, List.getElem?_eq_getElem h2]
   rfl
  rw [this]
 ·
  cases he
theorem mapSV_sound (hO : Own B0 X A w μ ownN) (hsub : ∀ (k : Nat) (bl : Blk), own[k]? = some bl → ownN[k]? = some bl) {s : SV} {v : Value} (hd : D w (held A μ) μ s v) {K : KT} {ag : Bool} {has : List Int → Bool} {val : List Int → List SV} (h : mapSV own s = some (K, ag, has, val)) :
  ∃ r g, v = .map (some r) ∧ MapAt w r K ag has g ∧ (∀ q, has q = true → (g q).length = (val q).length ∧ (val q).all SV.pure = true) ∧ ∀ (q : List Int) (i : Nat) (s : SV) (v : Value), has q = true → (val q)[i]? = some s → (g q)[i]? = some v → D w (held A μ) μ s v := by
 cases hd with
 | mp r g hb hm hl hd =>
  simp only [mapSV, Option.some.injEq, Prod.mk.injEq] at h
  obtain ⟨rfl, rfl, rfl, rfl⟩ := h
  exact ⟨r, g, rfl, hm, hl, hd⟩
 | omp hμ =>
  simp only [mapSV] at h
  split at h
  ·
   rename_i hk
   simp only [Option.some.injEq, Prod.mk.injEq] at h
   obtain ⟨rfl, rfl, rfl, rfl⟩ := h
   obtain ⟨bl, e, hok⟩ := hO.blk _ _ hμ
   rw [hsub _ _ hk] at e
   cases e
   obtain ⟨r, g, e1, hm, hl, hd⟩ := hok
   cases e1
   exact ⟨r, g, rfl, hm, hl, hd⟩
  ·
   cases h
 | _ => simp [mapSV] at h
theorem lookup_sound (hE : EnvOK E) (hO : Own B0 X A w μ ownN) (hsub : ∀ (k : Nat) (bl : Blk), own[k]? = some bl → ownN[k]? = some bl) {T : TypeId} {m i s : SV} {ok : Bool} {v u : Value} {pre : Prop} (hm : D w (held A μ) μ m v) (hi : D w (held A μ) μ i u)
  (he : evLookup E own T m i ok = some (pre, s)) (hp : pre) : ∃ r, (Instr.lookup T v u ok).run E.P w = .ok r w ∧ D w (held A μ) μ s r := by
 unfold evLookup at he
 split at he
 rotate_left
 ·
  cases he
 rename_i ky elem hT
 simp only [Option.bind_eq_some_iff] at he
 obtain ⟨⟨K, ag, has, val⟩, hms, he⟩ := he
 simp only at he
 split at he
 rotate_left
 ·
  cases he
 rename_i hc
 obtain ⟨hkt, hag, hza⟩ := hc
 simp only [Option.bind_eq_some_iff, Option.map_eq_some_iff, Prod.mk.injEq] at he
 obtain ⟨q, hq, s0, hs0, rfl, rfl⟩ := he
 obtain ⟨r, g, rfl, hMA, hl, hd⟩ := mapSV_sound hO hsub hm hms
 obtain ⟨ky', elem', hT', hkl⟩ := hE.kt T K hkt
 rw [hT] at hT'
 cases hT'
 obtain ⟨rfl, hokq⟩ := keySV_spec hq hi
 have hval : ∃ x, (has q = true → x = mkV ag (g q)) ∧ (has q = false → (zeroValue elem).run E.P w = .ok x w) ∧ D w (held A μ) μ s0 x := by
  cases hh : has q with
  | true =>
   refine ⟨mkV ag (g q), fun _ => rfl, fun h => (by cases h), ?_⟩
   obtain ⟨d, hu, h | h⟩ := asVal_sound (w := w) (H := held A μ) (μ := μ) (us := g q) hs0 (hl q hh).1 (fun i s u hs hu => hd q i s u hh hs hu)
   ·
    have : ag = true := by simpa [isAggB, hu, h.1] using hag.symm
    rw [this]
    exact h.2
   ·
    obtain ⟨hb, u, hus, hD⟩ := h
    have : ag = false := by simpa [isAggB, hu, hb] using hag.symm
    rw [this, hus]
    exact hD
  | false =>
   obtain ⟨inf, zv, hinf, hz, hze, hzD⟩ := zero_sound (w := w) (H := held A μ) (μ := μ) (hp hh)
   refine ⟨zv, fun h => (by cases h), fun _ => run_zeroValue hinf hz, ?_⟩
   obtain ⟨d, hu, h | h⟩ := asVal_sound (w := w) (H := held A μ) (μ := μ) (us := zv.cells.toList) hs0 hzD.1 hzD.2
   ·
    have h2 := h.2
    have : ag = true := by simpa [isAggB, hu, h.1] using hag.symm
    subst this
    cases zv <;> simp [zAgg, hinf, hz] at hza
    simpa [Value.cells] using h2
   ·
    obtain ⟨hb, u, hus, hD⟩ := h
    have : ag = false := by simpa [isAggB, hu, hb] using hag.symm
    subst this
    cases zv <;> simp [zAgg, hinf, hz] at hza
    all_goals
     simp only [Value.cells, List.cons.injEq, and_true] at hus
     subst hus
     exact hD
 obtain ⟨x, hx1, hx2, hxD⟩ := hval
 have hrun := run_lookup (w := w) (ok := ok) hT hkl hMA hokq (z := x) hx2
 have hite : (if has q then mkV ag (g q) else x) = x := by
  cases hh : has q with
  | true => simp [hx1 hh]
  | false => simp
 rw [hite] at hrun
 refine ⟨_, hrun, ?_⟩
 cases ok with
 | true =>
  refine .tup [x, .bool (has q)] rfl (fun i s v hs hv => ?_)
  match i with
  | 0 => simp at hs hv; subst hs hv; exact hxD
  | 1 => simp at hs hv; subst hs hv; exact .bool
  | i + 2 => simp at hs
 | false => exact hxD
theorem lookupP_sound (hE : EnvOK E) (hO : Own B0 X A w μ ownN) (hsub : ∀ (k : Nat) (bl : Blk), own[k]? = some bl → ownN[k]? = some bl) {T : TypeId} {m i s : SV} {ok : Bool} {v u : Value} {pre : Prop} (hm : D w (held A μ) μ m v) (hi : D w (held A μ) μ i u)
  (he : evLookupP E own T m i ok = some (pre, s)) (hp : pre) : ∃ r, (Instr.lookup T v u ok).run E.P w = .ok r w ∧ D w (held A μ) μ s r := by
 unfold evLookupP at he
 split at he
 rotate_left
 ·
  exact lookup_sound hE hO hsub hm hi he hp
 rename_i j
 split at he
 rotate_left
 ·
  exact lookup_sound hE hO hsub hm hi he hp
 rename_i K k has idx hk
 split at he
 rotate_left
 ·
  cases he
 rename_i ky elem hT
 split at he
 rotate_left
 ·
  cases he
 rename_i hc
 obtain ⟨hkt, hag, hz⟩ := hc
 simp only [Option.map_eq_some_iff, Prod.mk.injEq] at he
 obtain ⟨q, hq, rfl, rfl⟩ := he
 obtain ⟨ky', elem', hT', hkl⟩ := hE.kt T K hkt
 rw [hT] at hT'
 cases hT'
 obtain ⟨rfl, hokq⟩ := keySV_spec hq hi
 cases hm with
 | omp hμ =>
 obtain ⟨bl, e, hok⟩ := hO.blk _ _ hμ
 rw [hsub _ _ hk] at e
 cases e
 obtain ⟨_, r, g, e1, hMA, hd⟩ := hok
 cases e1
 have hz' : (E.P.info? elem).bind (·.zero) = some (.pointer none) := by
  unfold zPtr at hz
  split at hz
  ·
   assumption
  ·
   cases hz
 simp only [Option.bind_eq_some_iff] at hz'
 obtain ⟨inf, hinf, hz'⟩ := hz'
 have hrun := run_lookup (w := w) (ok := ok) hT hkl hMA hokq (z := .pointer none) (fun _ => run_zeroValue hinf hz')
 refine ⟨_, hrun, ?_⟩
 have key : D w (held A μ) μ (.fp (has q) k (idx q) 0) (if has q then mkV false (g q) else .pointer none) := by
  cases hh : has q with
  | true =>
   obtain ⟨p, e, h⟩ := hd q hh
   simp only [if_true, mkV, e, Bool.false_eq_true, if_false, List.getD_cons_zero]
   exact h
  | false =>
   simp only [Bool.false_eq_true, if_false]
   exact .fp rfl
 cases ok with
 | true =>
  refine .tup [_, .bool (has q)] rfl (fun i s v hs hv => ?_)
  match i with
  | 0 => simp at hs hv; subst hs hv; exact key
  | 1 => simp at hs hv; subst hs hv; exact .bool
  | i + 2 => simp at hs
 | false => exact key
theorem val_sound (hE : EnvOK E) (hO : Own B0 X A w μ ownN) (hsub : ∀ (k : Nat) (bl : Blk), own[k]? = some bl → ownN[k]? = some bl) (hρ : ∀ (x : Operand) (s : SV), ρ x = some s → D w (held A μ) μ s (a.eval x)) {o : Oper} {s : SV} {pre : Prop}
  (he : evVal E own ρ o.op = some (pre, s)) (hp : pre) : ∃ r, (execOp a.eval o).run E.P w = .ok (.value r) w ∧ D w (held A μ) μ s r := by
 obtain ⟨dst, op, type, pos, after, guard⟩ := o
 simp only at he
 unfold evVal at he
 split at he
 ·
  simp only [Option.map_eq_some_iff, Prod.mk.injEq] at he
  obtain ⟨t, ht, rfl, rfl⟩ := he
  exact ⟨_, by simp [execOp], hρ _ _ ht⟩
 ·
  simp only [Option.map_eq_some_iff, Prod.mk.injEq] at he
  obtain ⟨t, ht, rfl, rfl⟩ := he
  exact ⟨_, by simp [execOp], hρ _ _ ht⟩
 ·
  rename_i x
  split at he <;> try cases he
  all_goals
   have hd := hρ _ _ (by assumption)
   refine ⟨_, ?_, hd⟩
   generalize hv : a.eval x = v at hd
   cases hd
   simp [execOp, hv]
 ·
  simp only [Option.bind_eq_some_iff] at he
  obtain ⟨p, hx, he⟩ := he
  obtain ⟨u, h1, h2⟩ := load_sound hO hsub (hρ _ _ hx) he hp
  exact ⟨u, by simp [execOp, h1], h2⟩
 ·
  simp only [Option.bind_eq_some_iff] at he
  obtain ⟨p, hx, he⟩ := he
  obtain ⟨u, h1, h2⟩ := fieldAddr_sound (w := w) (hρ _ _ hx) he
  exact ⟨u, by simp [execOp, h1], h2⟩
 ·
  simp only [Option.bind_eq_some_iff] at he
  obtain ⟨p, hx, he⟩ := he
  obtain ⟨u, h1, h2⟩ := field_sound (w := w) (hρ _ _ hx) he
  exact ⟨u, by simp [execOp, h1], h2⟩
 ·
  simp only [Option.bind_eq_some_iff] at he
  obtain ⟨p, hx, n, hn, he⟩ := he
  obtain ⟨u, h1, h2⟩ := indexAddr_sound hO hsub (hρ _ _ hx) (hρ _ _ hn) he hp
  exact ⟨u, by simp [execOp, h1], h2⟩
 ·
  rename_i b T x y t
  simp only [Option.bind_eq_some_iff] at he
  obtain ⟨s1, hx, s2, hy, he⟩ := he
  have he : nilRow E.P own b T s1 s2 = some (pre, s) ∨ evBinE E b T s1 s2 = some (pre, s) := by
   split at he
   ·
    rename_i r hr; cases he; exact .inl hr
   ·
    exact .inr he
  obtain ⟨u, h1, h2⟩ : ∃ r, (do eqGuard b T x y (a.eval x) (a.eval y); binOp b T (a.eval x) (a.eval y)).run E.P w = .ok r w ∧ D w (held A μ) μ s r := by
   rcases he with he | he
   rotate_left
   ·
    exact binE_sound hE (xo := x) (yo := y) (hρ _ _ hx) (hρ _ _ hy) he hp
   ·
    have d1 := hρ _ _ hx
    have d2 := hρ _ _ hy
    generalize a.eval x = v1 at d1 ⊢
    generalize a.eval y = v2 at d2 ⊢
    unfold nilRow at he
    split at he
    rotate_left
    ·
     cases he
    split at he
    rotate_left
    ·
     cases he
    rename_i hk hu
    cases d2
    cases d1 with
    | @osl k n0 m0 a0 h =>
    obtain ⟨bl, e, hok⟩ := hO.blk _ _ h
    rw [hsub _ _ hk] at e
    cases e
    obtain ⟨a', m', e1, hnm, _, _, _, hr⟩ := hok
    simp only [Value.slice.injEq] at e1
    obtain ⟨ea, en, em⟩ := e1
    rw [← ea] at hr
    rw [← em] at hnm hr
    have hz : a0 = none → ∀ {q : Nat}, q ≤ m0 → q = 0 := fun e q hq => by
     rcases hr with hr | ⟨b, o, vs, hmp, e2, _⟩
     ·
      omega
     ·
      rw [e] at e2; cases e2
    split at he
    ·
     cases he
     exact ⟨_, run_eql_nil hu x y _ _ _, .ub (fun e => hz (by cases a0 <;> first | rfl | cases e) hnm) (fun _ => trivial)⟩
    ·
     cases he
     exact ⟨_, run_neq_nil hu x y _ _ _, .ub (fun _ => trivial) (fun e => hz (by cases a0 <;> first | rfl | cases e) hnm)⟩
    ·
     cases he
  refine ⟨u, ?_, h2⟩
  simp only [execOp]
  rw [Sem.run_bind, h1]
  simp
 ·
  simp only [Option.bind_eq_some_iff] at he
  obtain ⟨p, hx, he⟩ := he
  obtain ⟨u, h1, h2⟩ := un_sound (P := E.P) (hρ _ _ hx) he hp
  exact ⟨u, by simp [execOp, h1], h2⟩
 ·
  simp only [Option.bind_eq_some_iff] at he
  obtain ⟨p, hx, he⟩ := he
  obtain ⟨u, h1, h2⟩ := conv_sound (hρ _ _ hx) he hp
  exact ⟨u, by simp [execOp, h1], h2⟩
 ·
  simp only [Option.bind_eq_some_iff] at he
  obtain ⟨p, hx, he⟩ := he
  obtain ⟨u, h1, h2⟩ := extract_sound (P := E.P) (hρ _ _ hx) he
  exact ⟨u, by simp [execOp, h1], h2⟩
 ·
  rename_i T parts
  simp only [Option.bind_eq_some_iff] at he
  obtain ⟨ps, hps, he⟩ := he
  obtain ⟨l1, l2⟩ := mapM_get hps
  obtain ⟨u, h1, h2⟩ := build_sound (w := w) (H := held A μ) (μ := μ) (ps := parts.toList.map fun p => (p.1, a.eval p.2)) he (by simp [l1]) (fun i j s hs => by
   have hlt : i < parts.toList.length := by rw [← l1]; exact (List.getElem?_eq_some_iff.1 hs).1
   obtain ⟨y, hy, e⟩ := l2 i _ (List.getElem?_eq_getElem hlt)
   rw [hs] at hy
   cases hy
   simp only [Option.map_eq_some_iff, Prod.mk.injEq] at e
   obtain ⟨t, ht, e1, rfl⟩ := e
   refine ⟨a.eval (parts.toList[i]).2, ?_, hρ _ _ ht⟩
   rw [List.getElem?_map, List.getElem?_eq_getElem hlt, ← e1]
   rfl)
  refine ⟨u, ?_, h2⟩
  have hm : (parts.map fun (p : Nat × Operand) => (p.1, a.eval p.2)) = (parts.toList.map fun p => (p.1, a.eval p.2)).toArray := by
   apply Array.ext'; simp
  simp only [execOp, hm]
  rw [Sem.run_bind, h1]
  simp
 ·
  rename_i T x lo hi mx
  simp only [Option.bind_eq_some_iff] at he
  obtain ⟨p, hx, he⟩ := he
  have opt : ∀ o : Option Operand, DO w (held A μ) μ (optO ρ o) (o.map a.eval) := by
   intro o
   cases o with
   | none => simp [DO, optO]
   | some y =>
    simp only [optO, Option.map_some]
    cases hy : ρ y with
    | none => simp [DO]
    | some t => simpa [DO] using hρ _ _ hy
  obtain ⟨u, h1, h2⟩ := slice_sound (w := w) (H := held A μ) (μ := μ) (hρ _ _ hx) (opt lo) (opt hi) (opt mx) he hp
  exact ⟨u, by simp [execOp, h1], h2⟩
 ·
  rename_i f first caps
  split at he
  rotate_left
  ·
   cases he
  rename_i hf
  simp only [Option.map_eq_some_iff, Prod.mk.injEq] at he
  obtain ⟨cs, hcs, rfl, rfl⟩ := he
  have hD := args_sound (a := a) hρ hcs
  have hf' : first = #[] := by simpa using hf
  refine ⟨.func (.func f) #[] (caps.toList.map a.eval).toArray, ?_, .clo _ hD.1 hD.2⟩
  have hm : caps.map a.eval = (caps.toList.map a.eval).toArray := by apply Array.ext'; simp
  simp only [execOp, Instr.makeFunc, hf', hm]
  simp
 ·
  rename_i c
  unfold evCallB at he
  split at he
  ·
   rename_i b hb
   simp only [Option.bind_eq_some_iff] at he
   obtain ⟨xs, hxs, he⟩ := he
   have hD := args_sound (a := a) hρ hxs
   obtain ⟨u, h1, h2⟩ := builtin_sound (ts := c.argTypes.toList) (ty := type) (cs := c.args.map fun | .const _ => true | _ => false) hO hsub hD he
   refine ⟨u, ?_, h2⟩
   have hm : c.args.map a.eval = (c.args.toList.map a.eval).toArray := by apply Array.ext'; simp
   simp only [execOp, resolve, hb, Sem.run_bind, Sem.run_pure, Result.andThen_ok, invoke, hm]
   rw [show c.argTypes.toList.toArray = c.argTypes from by simp] at h1
   exact h1
  ·
   cases he
 ·
  simp only [Option.bind_eq_some_iff] at he
  obtain ⟨p, hx, n, hn, he⟩ := he
  obtain ⟨u, h1, h2⟩ := index_sound (w := w) (hρ _ _ hx) (hρ _ _ hn) he hp
  exact ⟨u, by simp [execOp, h1], h2⟩
 ·
  simp only [Option.bind_eq_some_iff] at he
  obtain ⟨p, hx, n, hn, he⟩ := he
  obtain ⟨u, h1, h2⟩ := lookupP_sound hE hO hsub (hρ _ _ hx) (hρ _ _ hn) he hp
  exact ⟨u, by simp [execOp, h1], h2⟩
 ·
  cases he
end
structure Entry where
 slot : Nat
 guard : Option (Nat × Bool)
 sv : SV
structure St where
 ρ : List Entry
 own : List Blk
def look (t : Nat) : List Entry → Option Entry
 | [] => none
 | e :: r => if e.slot = t then some e else look t r
def opd (E : Env) (ρ : List Entry) (g : Option (Nat × Bool)) : Operand → Option SV
 | .tmp t => match look t ρ with
  | some e => match e.guard with
   | none => some e.sv
   | some q => if g = some q then some e.sv else none
  | none => none
 | .const v => some (ofVal v)
 | .global n => E.glob n
 | .func f => some (.clo f [])
def forget (d : Nat) (e : Entry) : Entry := match e.guard with
 | some (g, _) => if g = d then { e with guard := none, sv := .any } else e
 | none => e
def putE (d : Option Nat) (g : Option (Nat × Bool)) (s : SV) (ρ : List Entry) : List Entry := match d with
 | none => ρ
 | some d => ⟨d, g, s⟩ :: (if ρ.any (fun e => match e.guard with | some (q, _) => q == d | none => false) then ρ.map (forget d) else ρ)
def killE (k : List Nat) (ρ : List Entry) : List Entry := ρ.map fun e => { e with sv := e.sv.kill2 k }
def EntryOK (w : World) (H : Nat → Prop) (μ : Mu) (tmps : Array Value) (e : Entry) : Prop :=
 match e.guard with
 | none => D w H μ e.sv (tmps.getD e.slot undef)
 | some (g, b) => (tmps.getD g undef = .bool b → D w H μ e.sv (tmps.getD e.slot undef)) ∧ (tmps.getD g undef ≠ .bool b → tmps.getD e.slot undef = undef)
def EnvD (w : World) (H : Nat → Prop) (μ : Mu) (tmps : Array Value) (ρ : List Entry) : Prop := ∀ t e, look t ρ = some e → EntryOK w H μ tmps e
structure SD (E : Env) (B0 : Nat) (X A : Nat → Prop) (w0 : World) (nt : Nat) (st : St) (a : Act) (w : World) (μ : Mu) : Prop where
 own : Own B0 X A w μ st.own
 fr : Fr B0 X w0 w
 base : B0 ≤ w.heap.size
 glo : ∀ g s, E.glob g = some s → s.pure = true ∧ D w (held A μ) μ s (.pointer (some ⟨g, 0, none⟩))
 dfr : a.defers = []
 size : a.tmps.size = nt
 env : EnvD w (held A μ) μ a.tmps st.ρ
 fresh : ∀ k, st.own.length ≤ k → μ k = none
 anc : ∀ k x, E.an k = some x → μ k = some x
theorem look_slot {t : Nat} {ρ : List Entry} {e : Entry} (h : look t ρ = some e) : e.slot = t := by
 induction ρ with
 | nil => simp [look] at h
 | cons x r ih =>
  simp only [look] at h
  split at h
  ·
   cases h; assumption
  ·
   exact ih h
theorem look_map {t : Nat} {f : Entry → Entry} (hf : ∀ e, (f e).slot = e.slot) (ρ : List Entry) : look t (ρ.map f) = (look t ρ).map f := by
 induction ρ with
 | nil => rfl
 | cons x r ih =>
  simp only [List.map_cons, look, hf]
  split <;> simp [ih]
theorem forget_slot (d : Nat) (e : Entry) : (forget d e).slot = e.slot := by
 unfold forget; split <;> (try split) <;> rfl
section
variable {w w' : World} {H H' : Nat → Prop} {μ μ' : Mu} {tmps : Array Value} {ρ : List Entry}
theorem EnvD.keep (hk : Keeps w w' H H' μ μ') (h : EnvD w H μ tmps ρ) : EnvD w' H' μ' tmps ρ := by
 intro t e he
 have := h t e he
 unfold EntryOK at this ⊢
 split at this
 ·
  exact this.keep hk
 ·
  exact ⟨fun hg => (this.1 hg).keep hk, this.2⟩
theorem EnvD.change {k : List Nat} (hk : Keeps' k w w' H H' μ μ') (h : EnvD w H μ tmps ρ) : EnvD w' H' μ' tmps (killE k ρ) := by
 intro t e he
 rw [killE, look_map (f := fun (e : Entry) => { e with sv := e.sv.kill2 k }) (fun _ => rfl), Option.map_eq_some_iff] at he
 obtain ⟨e0, he0, rfl⟩ := he
 have := h t e0 he0
 unfold EntryOK at this ⊢
 simp only
 split at this
 ·
  exact kill2_change hk this
 ·
  exact ⟨fun hg => kill2_change hk (this.1 hg), this.2⟩
theorem getD_set {tmps : Array Value} {d t : Nat} {v : Value} (hd : d < tmps.size) : (tmps.setIfInBounds d v).getD t undef = if t = d then v else tmps.getD t undef := by
 by_cases e : t = d
 ·
  subst e; simp [hd]
 ·
  simp [e, Array.getElem?_setIfInBounds_ne (Ne.symm e)]
theorem EnvD.put (h : EnvD w H μ tmps ρ) {d : Nat} (hd : d < tmps.size) {g : Option (Nat × Bool)} {s : SV} {v : Value} (hg : ∀ q b, g = some (q, b) → q ≠ d)
  (hv : EntryOK w H μ (tmps.setIfInBounds d v) ⟨d, g, s⟩) : EnvD w H μ (tmps.setIfInBounds d v) (putE (some d) g s ρ) := by
 have old : ∀ t e, t ≠ d → look t ρ = some e → EntryOK w H μ (tmps.setIfInBounds d v) (forget d e) := by
  intro t e hne he
  have hs := look_slot he
  have := h t e he
  unfold forget
  split
  ·
   rename_i q b hq
   split
   ·
    unfold EntryOK; exact .any
   ·
    rename_i hqd
    unfold EntryOK at this ⊢
    rw [hq] at this ⊢
    simp only at this ⊢
    rw [getD_set hd, getD_set hd, if_neg hqd, if_neg (by rw [hs]; exact hne)]
    exact this
  ·
   rename_i hq
   unfold EntryOK at this ⊢
   rw [hq] at this ⊢
   simp only at this ⊢
   rw [getD_set hd, if_neg (by rw [hs]; exact hne)]
   exact this
 intro t e he
 simp only [putE, look] at he
 split at he
 ·
  cases he; exact hv
 ·
  rename_i hne
  split at he
  ·
   rw [look_map (forget_slot d), Option.map_eq_some_iff] at he
   obtain ⟨e0, he0, rfl⟩ := he
   exact old t e0 (Ne.symm hne) he0
  ·
   rename_i hno
   have := old t e (Ne.symm hne) he
   have hf : forget d e = e := by
    unfold forget
    split
    ·
     rename_i q b hq
     split
     ·
      rename_i hqd
      exfalso
      apply hno
      rw [List.any_eq_true]
      have hmem : e ∈ ρ := by
       clear hno old this h
       induction ρ with
       | nil => simp [look] at he
       | cons x r ih =>
        simp only [look] at he
        split at he
        ·
         cases he; simp
        ·
         exact List.mem_cons_of_mem _ (ih he)
      exact ⟨e, hmem, by rw [hq]; simpa using hqd⟩
     ·
      rfl
    ·
     rfl
   rwa [hf] at this
theorem opd_sound {E : Env} {a : Act} {g : Option (Nat × Bool)} (hglo : ∀ n s, E.glob n = some s → D w H μ s (.pointer (some ⟨n, 0, none⟩))) (henv : EnvD w H μ a.tmps ρ)
  (hg : ∀ q b, g = some (q, b) → a.tmps.getD q undef = .bool b) : ∀ (x : Operand) (s : SV), opd E ρ g x = some s → D w H μ s (a.eval x) := by
 intro x s h
 cases x with
 | tmp t =>
  simp only [opd] at h
  split at h
  ·
   rename_i e he
   have hs := look_slot he
   have hok := henv t e he
   unfold EntryOK at hok
   split at h
   ·
    rename_i hn
    cases h
    rw [hn] at hok
    simp only at hok
    rw [hs] at hok
    exact hok
   ·
    rename_i q hq
    split at h
    ·
     rename_i hgq
     cases h
     rw [hq] at hok
     obtain ⟨q1, q2⟩ := q
     simp only at hok
     have := hok.1 (hg q1 q2 hgq)
     rw [hs] at this
     exact this
    ·
     cases h
  ·
   cases h
 | const v => simp only [opd, Option.some.injEq] at h; subst h; exact D_ofVal v
 | global n => exact hglo n s h
 | func f => simp only [opd, Option.some.injEq] at h; subst h; exact .clo [] rfl (fun i s v h _ => by simp at h)
end
def SV.ro00 (own : List Blk) : SV → SV
 | .osl k => match own[k]? with
  | some (.row _ sz n f c) => .sl sz n f c
  | _ => .any
 | .omp k => match own[k]? with
  | some (.map K ag has val) => .mp K ag has val
  | _ => .any
 | .own _ _ | .oel _ _ _ _ | .agg _ | .tup _ | .fp _ _ _ _ => .any
 | .clo f cs => if cs.isEmpty then .clo f [] else .any
 | s => s
def SV.ro0 (own : List Blk) : SV → SV
 | .own k off => match own[k]? with
  | some (.cells _ cs) => .rel cs.length 1 (fun _ => cs.map (SV.ro00 own)) 0 off
  | _ => .any
 | s => s.ro00 own
def SV.ro1 (own : List Blk) : SV → Option SV
 | .osl k => match own[k]? with
  | some (.row _ sz n f c) => some (.sl sz n f c)
  | _ => none
 | .omp k => match own[k]? with
  | some (.map K ag has val) => some (.mp K ag has val)
  | _ => none
 | .own k off => match own[k]? with
  | some (.cells _ cs) => some (.rel cs.length 1 (fun _ => cs.map (SV.ro0 own)) 0 off)
  | _ => none
 | .oel _ _ _ _ | .agg _ | .tup _ | .fp _ _ _ _ | .any => none
 | .clo f cs => if cs.isEmpty then some (.clo f []) else none
 | s => some s
def SV.ro (own : List Blk) : SV → Option SV
 | .clo f cs => (cs.mapM (SV.ro1 own)).map (.clo f)
 | s => s.ro1 own
def SV.roA (own : List Blk) : SV → Option SV
 | .agg cs => (cs.mapM (SV.ro own)).map .agg
 | s => s.ro own
def SV.isOsl0 : SV → Bool
 | .osl _ | .omp _ | .own _ _ => true
 | _ => false
def SV.isOsl : SV → Bool
 | .clo _ cs => cs.any SV.isOsl0
 | s => s.isOsl0
def SV.hasOsl : SV → Bool
 | .agg cs => cs.any SV.isOsl
 | s => s.isOsl
def SV.flat0 : SV → Bool
 | .int _ _ | .bool _ | .con _ => true
 | .clo _ cs => cs.isEmpty
 | _ => false
def SV.flat1 : SV → Bool
 | .agg cs => cs.all SV.flat0
 | s => s.flat0
def SV.flat2 : SV → Bool
 | .tup vs => vs.all SV.flat1
 | s => s.flat1
section
variable {w : World} {H H' : Nat → Prop} {μ μ' : Mu}
theorem flat0_D {s : SV} {v : Value} {w' : World} (hf : s.flat0 = true) (h : D w H μ s v) : D w' H' μ' s v := by
 cases h <;> simp [SV.flat0] at hf
 ·
  exact .int
 ·
  exact .bool
 ·
  exact .con
 ·
  rename_i vs hl hd
  subst hf
  exact .clo vs hl (fun i s v h => by simp at h)
theorem flat1_D {s : SV} {v : Value} {w' : World} (hf : s.flat1 = true) (h : D w H μ s v) : D w' H' μ' s v := by
 unfold SV.flat1 at hf
 split at hf
 ·
  cases h with
  | agg vs hl hd => exact .agg vs hl (fun i s v hs hv => flat0_D (List.all_eq_true.1 hf s (List.mem_of_getElem? hs)) (hd i s v hs hv))
 ·
  exact flat0_D hf h
theorem flat2_D {s : SV} {v : Value} {w' : World} (hf : s.flat2 = true) (h : D w H μ s v) : D w' H' μ' s v := by
 unfold SV.flat2 at hf
 split at hf
 ·
  cases h with
  | tup vs hl hd => exact .tup vs hl (fun i s v hs hv => flat1_D (List.all_eq_true.1 hf s (List.mem_of_getElem? hs)) (hd i s v hs hv))
 ·
  exact flat1_D hf h
theorem pure_mono (hH : ∀ b, H' b → H b) {s : SV} {v : Value} (h : D w H μ s v) : s.pure = true → D w H' μ' s v := by
 induction h with
 | int => exact fun _ => .int
 | bool => exact fun _ => .bool
 | con => exact fun _ => .con
 | own h => intro hp; simp [SV.pure, SV.pure0] at hp
 | osl h => intro hp; simp [SV.pure, SV.pure0] at hp
 | oel h => intro hp; simp [SV.pure, SV.pure0] at hp
 | omp h => intro hp; simp [SV.pure, SV.pure0] at hp
 | fp h => intro hp; simp [SV.pure, SV.pure0] at hp
 | mp r g hb hm hl hd ih =>
  exact fun _ => .mp r g (fun hh => hb (hH _ hh)) hm hl (fun q i s v hq hs hv => ih q i s v hq hs hv (List.all_eq_true.1 (hl q hq).2 s (List.mem_of_getElem? hs)))
 | sl a b o m g hm hx hc hrow hl hd ih =>
  exact fun _ => .sl a b o m g hm hx hc (fun hn => by
   obtain ⟨e, hb, hr⟩ := hrow hn
   exact ⟨e, fun hh => hb (hH _ hh), hr⟩) hl (fun i j s hi hs => ih i j s hi hs (List.all_eq_true.1 (hl i hi).2 s (List.mem_of_getElem? hs)))
 | rel b o g hi hb hrow hl hd ih =>
  exact fun _ => .rel b o g hi (fun hh => hb (hH _ hh)) hrow hl (fun i j s hi hs => ih i j s hi hs (List.all_eq_true.1 (hl i hi).2 s (List.mem_of_getElem? hs)))
 | agg vs hl hd ih => intro hp; simp [SV.pure, SV.pure0] at hp
 | tup vs hl hd ih => intro hp; simp [SV.pure, SV.pure0] at hp
 | clo vs hl hd ih =>
  exact fun hp => .clo vs hl (fun i s v hs hv => ih i s v hs hv (pure_of0 (List.all_eq_true.1 hp s (List.mem_of_getElem? hs))))
 | ub h1 h2 => exact fun _ => .ub h1 h2
 | any => exact fun _ => .any
theorem pure_mu (hH : ∀ b, H' b → H b) {s : SV} {v : Value} (h : D w H μ s v) : s.pure = true → D w H' μ' s v := by
 induction h with
 | int => exact fun _ => .int
 | bool => exact fun _ => .bool
 | con => exact fun _ => .con
 | own h => intro hp; simp [SV.pure, SV.pure0] at hp
 | osl h => intro hp; simp [SV.pure, SV.pure0] at hp
 | oel h => intro hp; simp [SV.pure, SV.pure0] at hp
 | omp h => intro hp; simp [SV.pure, SV.pure0] at hp
 | fp h => intro hp; simp [SV.pure, SV.pure0] at hp
 | mp r g hb hm hl hd ih =>
  exact fun _ => .mp r g (fun hh => hb (hH _ hh)) hm hl (fun q i s v hq hs hv => ih q i s v hq hs hv (List.all_eq_true.1 (hl q hq).2 s (List.mem_of_getElem? hs)))
 | sl a b o m g hm hx hc hrow hl hd ih =>
  exact fun _ => .sl a b o m g hm hx hc (fun hn => by
   obtain ⟨e, hb, hr⟩ := hrow hn
   exact ⟨e, fun hh => hb (hH _ hh), hr⟩) hl (fun i j s hi hs => ih i j s hi hs (List.all_eq_true.1 (hl i hi).2 s (List.mem_of_getElem? hs)))
 | rel b o g hi hb hrow hl hd ih =>
  exact fun _ => .rel b o g hi (fun hh => hb (hH _ hh)) hrow hl (fun i j s hi hs => ih i j s hi hs (List.all_eq_true.1 (hl i hi).2 s (List.mem_of_getElem? hs)))
 | agg vs hl hd ih => intro hp; simp [SV.pure, SV.pure0] at hp
 | tup vs hl hd ih => intro hp; simp [SV.pure, SV.pure0] at hp
 | clo vs hl hd ih =>
  exact fun hp => .clo vs hl (fun i s v hs hv => ih i s v hs hv (pure_of0 (List.all_eq_true.1 hp s (List.mem_of_getElem? hs))))
 | ub h1 h2 => exact fun _ => .ub h1 h2
 | any => exact fun _ => .any
end
def Nobody : Mu := fun _ => none
def PSound (P : Program) (glob : Nat → Option SV) (f : FuncId) (c : List SV → Option (Prop × SV)) : Prop :=
 (∃ fn, P.funcs[f]? = some fn ∧ (fn.name == "runtime.NumGoroutine") = false ∧ fn.body.isNone = false) ∧
 ∀ (A : Nat → Prop) (w : World) (args : List SV) (vals : List Value) (pre : Prop) (s : SV), (∀ b, A b → b < w.heap.size) → (∀ g t, glob g = some t → t.pure = true ∧ D w A Nobody t (.pointer (some ⟨g, 0, none⟩))) →
  DL w A Nobody args vals → c args = some (pre, s) → pre →
  Calls P f vals.toArray w fun e w' => ∃ v, e = .returned v ∧ D w' A Nobody s v ∧ Fr w.heap.size (fun _ => False) w w'
section
variable {E : Env} {w : World} {μ : Mu} {B0 : Nat} {X A : Nat → Prop} {own ownN : List Blk}
theorem lend_row (hO : Own B0 X A w μ ownN) (hsub : ∀ (k : Nat) (bl : Blk), own[k]? = some bl → ownN[k]? = some bl) {A' : Nat → Prop} (hA : ∀ b, A' b → held A μ b) (hA' : ∀ b, A' b → A b) {k n m : Nat} {a : Option Addr} (h : μ k = some (.slice a n m)) {T : TypeId} {sz n' : Nat} {f : Nat → List SV} {c : Option Nat}
  (hk : own[k]? = some (.row T sz n' f c)) : D w A' Nobody (.sl sz n' f c) (.slice a n m) := by
 obtain ⟨bl, e, hok⟩ := hO.blk _ _ h
 rw [hsub _ _ hk] at e
 cases e
 obtain ⟨a', m', e1, hn, hm, hc, hl, hrest⟩ := hok
 cases e1
 rcases hrest with rfl | ⟨b, o, vs, hmp, rfl, hh, ho, h1, hD⟩
 ·
  exact .sl _ 0 0 0 (fun _ _ => undef) hn hm hc (fun h => absurd h (by omega)) hl (fun i j s hi => absurd hi (by omega))
 ·
  have hnb : ¬ A' b := fun hb => (hO.rng _ _ b h (has_pos hmp)).2.1 (hA' b hb)
  have hin : ∀ i j, i < n → j < sz → o + i * sz + j < vs.length := fun i j hi hj => by
   have := idx_lt hi hj
   have : n * sz ≤ m * sz := Nat.mul_le_mul_right _ hn
   omega
  refine .sl _ b o m (fun i j => vs.getD (o + i * sz + j) undef) hn hm hc (fun _ => ⟨rfl, hnb, lt_of_row hh, fun i j hi hj => ?_⟩) hl (fun i j s hi hs => ?_)
  ·
   have := hin i j hi hj
   rw [cell_row hh, List.getElem?_eq_getElem this]
   simp only [List.getD_eq_getElem?_getD, List.getElem?_eq_getElem this, Option.getD_some]
   exact ⟨trivial, h1 _ (List.getElem_mem this)⟩
  ·
   have hj : j < sz := by rw [← (hl i hi).1]; exact (List.getElem?_eq_some_iff.1 hs).1
   have := hin i j hi hj
   simp only [List.getD_eq_getElem?_getD, List.getElem?_eq_getElem this, Option.getD_some]
   exact pure_mono hA (hD i j s _ hi hs (List.getElem?_eq_getElem this)) (List.all_eq_true.1 (hl i hi).2 s (List.mem_of_getElem? hs))
theorem lend_map (hO : Own B0 X A w μ ownN) (hsub : ∀ (k : Nat) (bl : Blk), own[k]? = some bl → ownN[k]? = some bl) {A' : Nat → Prop} (hA : ∀ b, A' b → held A μ b) (hA' : ∀ b, A' b → A b) {k : Nat} {r : Option Nat} (h : μ k = some (.map r)) {K : KT} {ag : Bool} {has : List Int → Bool} {val : List Int → List SV}
  (hk : own[k]? = some (.map K ag has val)) : D w A' Nobody (.mp K ag has val) (.map r) := by
 obtain ⟨bl, e, hok⟩ := hO.blk _ _ h
 rw [hsub _ _ hk] at e
 cases e
 obtain ⟨r', g, e1, hm, hl, hD⟩ := hok
 cases e1
 exact .mp r' g (fun hb => (hO.rng _ _ r' h (.inl rfl)).2.1 (hA' _ hb)) hm hl (fun q i s v hq hs hv => pure_mono hA (hD q i s v hq hs hv) (List.all_eq_true.1 (hl q hq).2 s (List.mem_of_getElem? hs)))
theorem ro00_sound (hO : Own B0 X A w μ ownN) (hsub : ∀ (k : Nat) (bl : Blk), own[k]? = some bl → ownN[k]? = some bl) {A' : Nat → Prop} (hA : ∀ b, A' b → held A μ b) (hA' : ∀ b, A' b → A b) {s : SV} {v : Value} (hd : D w (held A μ) μ s v) : D w A' Nobody (s.ro00 own) v := by
 have lift : s.pure = true → s.ro00 own = s → D w A' Nobody (s.ro00 own) v := fun hp e => by rw [e]; exact pure_mono hA hd hp
 cases hd with
 | osl h =>
  simp only [SV.ro00]
  split
  ·
   rename_i hk; exact lend_row hO hsub hA hA' h hk
  ·
   exact .any
 | fp h => exact .any
 | omp h =>
  simp only [SV.ro00]
  split
  ·
   rename_i hk; exact lend_map hO hsub hA hA' h hk
  ·
   exact .any
 | own h => exact .any
 | oel h => exact .any
 | agg vs hl hd => exact .any
 | tup vs hl hd => exact .any
 | clo vs hl hd =>
  simp only [SV.ro00]
  split
  ·
   rename_i hc
   have hc' := List.isEmpty_iff.1 hc
   subst hc'
   exact .clo vs hl (fun i s v h => by simp at h)
  ·
   exact .any
 | int => exact lift rfl rfl
 | bool => exact lift rfl rfl
 | con => exact lift rfl rfl
 | sl a b o m g hm hx hc hrow hl hd => exact lift rfl rfl
 | rel b o g hi hb hrow hl hd => exact lift rfl rfl
 | mp r g hb hm hl hd => exact lift rfl rfl
 | ub h1 h2 => exact .ub h1 h2
 | any => exact .any
theorem ro00_pure (own : List Blk) (s : SV) : (s.ro00 own).pure = true := by
 cases s with
 | osl k => simp only [SV.ro00]; split <;> rfl
 | omp k => simp only [SV.ro00]; split <;> rfl
 | clo f cs => simp only [SV.ro00]; split <;> rfl
 | _ => rfl
theorem ro0_pure (own : List Blk) (s : SV) : (s.ro0 own).pure = true := by
 unfold SV.ro0
 split
 ·
  split <;> rfl
 ·
  exact ro00_pure own s
theorem lend_cells (hO : Own B0 X A w μ ownN) (hsub : ∀ (k : Nat) (bl : Blk), own[k]? = some bl → ownN[k]? = some bl) {A' : Nat → Prop} (hA' : ∀ b, A' b → A b) {k off b : Nat} (h : μ k = some (.pointer (some ⟨b, 0, none⟩))) {T : TypeId} {cs : List SV} (hk : own[k]? = some (.cells T cs))
  {g : SV → SV} (hp : ∀ s, (g s).pure = true) (hg : ∀ s v, D w (held A μ) μ s v → D w A' Nobody (g s) v) : D w A' Nobody (.rel cs.length 1 (fun _ => cs.map g) 0 off) (.pointer (some ⟨b, off, none⟩)) := by
 obtain ⟨bl, e, hok⟩ := hO.blk _ _ h
 rw [hsub _ _ hk] at e
 cases e
 obtain ⟨b', vs, e1, hh, hl, h1, hD⟩ := hok
 cases e1
 have := D.rel (w := w) (H := A') (μ := Nobody) (sz := cs.length) (n := 1) (i := 0) (off := off) (f := fun _ => cs.map g) b 0 (fun _ j => vs.getD j undef) (by omega) (fun hb => (hO.rng _ _ b h (.inl rfl)).2.1 (hA' _ hb)) ⟨lt_of_row hh, fun i j hi hj => ?_⟩
  (fun i _ => ⟨by simp, by simp only [List.all_map, List.all_eq_true]; intro x _; exact hp x⟩) (fun i j s hi hs => ?_)
 ·
  simpa using this
 ·
  have hi0 : i = 0 := by omega
  subst hi0
  have hj' : j < vs.length := by omega
  have e0 : (0 + 0 * cs.length + j) = j := by omega
  rw [e0, cell_row hh, List.getElem?_eq_getElem hj']
  simp only [List.getD_eq_getElem?_getD, List.getElem?_eq_getElem hj', Option.getD_some]
  exact ⟨trivial, h1 _ (List.getElem_mem hj')⟩
 ·
  simp only [List.getElem?_map, Option.map_eq_some_iff] at hs
  obtain ⟨s0, hs0, rfl⟩ := hs
  have hj' : j < vs.length := by rw [hl]; exact (List.getElem?_eq_some_iff.1 hs0).1
  simp only [List.getD_eq_getElem?_getD, List.getElem?_eq_getElem hj', Option.getD_some]
  exact hg _ _ (hD j s0 _ hs0 (List.getElem?_eq_getElem hj'))
theorem ro0_sound (hO : Own B0 X A w μ ownN) (hsub : ∀ (k : Nat) (bl : Blk), own[k]? = some bl → ownN[k]? = some bl) {A' : Nat → Prop} (hA : ∀ b, A' b → held A μ b) (hA' : ∀ b, A' b → A b) {s : SV} {v : Value} (hd : D w (held A μ) μ s v) : D w A' Nobody (s.ro0 own) v := by
 unfold SV.ro0
 split
 ·
  rename_i k off
  split
  ·
   rename_i T cs hk
   cases hd with
   | own h => exact lend_cells hO hsub hA' h hk (ro00_pure own) (fun s v hd => ro00_sound hO hsub hA hA' hd)
  ·
   exact .any
 ·
  exact ro00_sound hO hsub hA hA' hd
theorem ro1_sound (hO : Own B0 X A w μ ownN) (hsub : ∀ (k : Nat) (bl : Blk), own[k]? = some bl → ownN[k]? = some bl) {A' : Nat → Prop} (hA : ∀ b, A' b → held A μ b) {s t : SV} {v : Value} (hd : D w (held A μ) μ s v) (hr : s.ro1 own = some t) (hosl : s.isOsl0 = true → ∀ b, A' b → A b) : D w A' Nobody t v := by
 have lift : s.pure = true → t = s → D w A' Nobody t v := fun hp e => by
  subst e
  exact pure_mono hA hd hp
 cases hd with
 | osl h =>
  simp only [SV.ro1] at hr
  split at hr
  ·
   rename_i hk; cases hr; exact lend_row hO hsub hA (hosl rfl) h hk
  ·
   cases hr
 | omp h =>
  simp only [SV.ro1] at hr
  split at hr
  ·
   rename_i hk; cases hr; exact lend_map hO hsub hA (hosl rfl) h hk
  ·
   cases hr
 | own h =>
  rename_i k off b
  simp only [SV.ro1] at hr
  split at hr
  ·
   rename_i T cs hk
   cases hr
   have hA' := hosl rfl
   exact lend_cells hO hsub hA' h hk (ro0_pure own) (fun s v hd => ro0_sound hO hsub hA hA' hd)
  ·
   cases hr
 | int => exact lift rfl (by simpa [SV.ro1] using hr.symm)
 | bool => exact lift rfl (by simpa [SV.ro1] using hr.symm)
 | ub h1 h2 => exact lift rfl (by simpa [SV.ro1] using hr.symm)
 | con => exact lift rfl (by simpa [SV.ro1] using hr.symm)
 | sl a b o m g hm hx hc hrow hl hd => exact lift rfl (by simpa [SV.ro1] using hr.symm)
 | rel b o g hi hb hrow hl hd => exact lift rfl (by simpa [SV.ro1] using hr.symm)
 | mp r g hb hm hl hd => exact lift rfl (by simpa [SV.ro1] using hr.symm)
 | clo vs hl hd =>
  simp only [SV.ro1] at hr
  split at hr
  ·
   rename_i hc
   cases hr
   have hc' := List.isEmpty_iff.1 hc
   subst hc'
   exact .clo vs hl (fun i s v h => by simp at h)
  ·
   cases hr
 | _ => simp [SV.ro1] at hr
theorem ro_sound (hO : Own B0 X A w μ ownN) (hsub : ∀ (k : Nat) (bl : Blk), own[k]? = some bl → ownN[k]? = some bl) {A' : Nat → Prop} (hA : ∀ b, A' b → held A μ b) {s t : SV} {v : Value} (hd : D w (held A μ) μ s v) (hr : s.ro own = some t) (hosl : s.isOsl = true → ∀ b, A' b → A b) : D w A' Nobody t v := by
 unfold SV.ro at hr
 split at hr
 ·
  rename_i f cs
  simp only [Option.map_eq_some_iff] at hr
  obtain ⟨ts, hts, rfl⟩ := hr
  obtain ⟨l1, l2⟩ := mapM_get hts
  cases hd with
  | clo vs hl hd =>
   refine .clo vs (by rw [hl, l1]) (fun i t v ht hv => ?_)
   have hlt : i < cs.length := by rw [← l1]; exact (List.getElem?_eq_some_iff.1 ht).1
   obtain ⟨y, hy, e⟩ := l2 i _ (List.getElem?_eq_getElem hlt)
   rw [ht] at hy
   cases hy
   exact ro1_sound hO hsub hA (hd i _ v (List.getElem?_eq_getElem hlt) hv) e (fun h => hosl (by simp only [SV.isOsl, List.any_eq_true]; exact ⟨_, List.getElem_mem hlt, h⟩))
 ·
  rename_i hna
  refine ro1_sound hO hsub hA hd hr (fun h => hosl ?_)
  unfold SV.isOsl
  split
  ·
   rename_i f cs; exact absurd rfl (hna f cs)
  ·
   exact h
theorem roA_sound (hO : Own B0 X A w μ ownN) (hsub : ∀ (k : Nat) (bl : Blk), own[k]? = some bl → ownN[k]? = some bl) {A' : Nat → Prop} (hA : ∀ b, A' b → held A μ b) {s t : SV} {v : Value} (hd : D w (held A μ) μ s v) (hr : s.roA own = some t) (hosl : s.hasOsl = true → ∀ b, A' b → A b) : D w A' Nobody t v := by
 unfold SV.roA at hr
 split at hr
 ·
  rename_i cs
  simp only [Option.map_eq_some_iff] at hr
  obtain ⟨ts, hts, rfl⟩ := hr
  obtain ⟨l1, l2⟩ := mapM_get hts
  cases hd with
  | agg vs hl hd =>
   refine .agg vs (by rw [hl, l1]) (fun i t v ht hv => ?_)
   have hlt : i < cs.length := by rw [← l1]; exact (List.getElem?_eq_some_iff.1 ht).1
   obtain ⟨y, hy, e⟩ := l2 i _ (List.getElem?_eq_getElem hlt)
   rw [ht] at hy
   cases hy
   exact ro_sound hO hsub hA (hd i _ v (List.getElem?_eq_getElem hlt) hv) e (fun h => hosl (by simp only [SV.hasOsl, List.any_eq_true]; exact ⟨_, List.getElem_mem hlt, h⟩))
 ·
  rename_i hna
  exact ro_sound hO hsub hA hd hr (fun h => hosl (by
   unfold SV.hasOsl
   split
   ·
    rename_i cs; exact absurd rfl (hna cs)
   ·
    exact h))
def evCall (E : Env) (own : List Blk) (ρ : Operand → Option SV) (c : Call) : Option (Prop × SV) :=
 match c.callee with
 | .value f => match ρ f with
  | some (.clo fid caps) => (c.args.toList.mapM ρ).bind fun xs => ((xs ++ caps).mapM (SV.roA own)).bind fun ys => (E.C fid).bind fun k => (k ys).bind fun r =>
    if !((xs ++ caps).any SV.hasOsl) || r.2.flat2 then some r else none
  | _ => none
 | _ => none
def Solo (v : Value) : Mu := fun k => if k = 0 then some v else none
def ESound (P : Program) (glob : Nat → Option SV) (f : FuncId) (e : EffK) : Prop :=
 (∃ fn, P.funcs[f]? = some fn ∧ (fn.name == "runtime.NumGoroutine") = false ∧ fn.body.isNone = false) ∧
 ∀ (A : Nat → Prop) (w : World) (v : Value) (T : TypeId) (sz n : Nat) (g : Nat → List SV) (c : Option Nat) (rest : List SV) (vals : List Value) (pre : Prop) (g' : Nat → List SV) (r : Bool),
  (∀ b, A b → b < w.heap.size) → (∀ b, Has v b → b < w.heap.size ∧ ¬ A b) → (∀ q t, glob q = some t → t.pure = true ∧ D w (held A (Solo v)) Nobody t (.pointer (some ⟨q, 0, none⟩))) →
  BlkOK w (held A (Solo v)) (Solo v) v (.row T sz n g c) → DL w (held A (Solo v)) Nobody rest vals → e T sz n g rest = some (pre, g', r) → pre →
  Calls P f (v :: vals).toArray w fun x w' => ∃ res, x = .returned res ∧ (r = true → res = v) ∧ (r = false → res = .tuple #[]) ∧ BlkOK w' (held A (Solo v)) (Solo v) v (.row T sz n g' c) ∧ Fr w.heap.size (fun b => Has v b) w w'
def blksOf (μ : Mu) (b : Nat) : Prop := ∃ k x, μ k = some x ∧ Has x b
def HSound (P : Program) (glob : Nat → Option SV) (f : FuncId) (h : HK) : Prop :=
 (∃ fn, P.funcs[f]? = some fn ∧ (fn.name == "runtime.NumGoroutine") = false ∧ fn.body.isNone = false) ∧
 ∀ (A : Nat → Prop) (w : World) (args : List SV) (vals : List Value) (own : List Blk) (μ : Mu) (r : HRes), (∀ b, A b → b < w.heap.size) → (∀ g t, glob g = some t → t.pure = true ∧ D w (held A μ) Nobody t (.pointer (some ⟨g, 0, none⟩))) →
  Own 0 (fun _ => True) A w μ own → (∀ k, own.length ≤ k → μ k = none) → DL w (held A μ) μ args vals → h args own = some r → r.pre →
  Calls P f vals.toArray w fun x w' => ∃ v μ', x = .returned v ∧ Own w.heap.size (blksOf μ) A w' μ' r.own ∧ (∀ k, r.own.length ≤ k → μ' k = none) ∧ D w' (held A μ') μ' r.res v ∧
   (∀ k x, k < own.length → r.chg.contains k = false → μ k = some x → μ' k = some x) ∧ Fr w.heap.size (blksOf μ) w w'
def XSound (E : Env) : Prop := ∀ f e, E.X f = some e → ESound E.P E.glob f e
def CSound (E : Env) : Prop := (∀ f c, E.C f = some c → PSound E.P E.glob f c) ∧ XSound E ∧ ∀ f h, E.Hc f = some h → HSound E.P E.glob f h
theorem DL_app {H : Nat → Prop} {xs ys : List SV} {us vs : List Value} (h : DL w H μ xs us) (k : DL w H μ ys vs) : DL w H μ (xs ++ ys) (us ++ vs) := by
 refine ⟨by simp [h.1, k.1], fun i s v hs hv => ?_⟩
 by_cases hi : i < xs.length
 ·
  rw [List.getElem?_append_left hi] at hs
  rw [List.getElem?_append_left (by rw [h.1]; exact hi)] at hv
  exact h.2 i s v hs hv
 ·
  rw [List.getElem?_append_right (by omega)] at hs
  rw [List.getElem?_append_right (by rw [h.1]; omega), h.1] at hv
  exact k.2 _ s v hs hv
theorem call_sound (hC : CSound E) (hO : Own B0 X A w μ ownN) (hsub : ∀ (k : Nat) (bl : Blk), own[k]? = some bl → ownN[k]? = some bl) (hglo : ∀ g s, E.glob g = some s → s.pure = true ∧ D w (held A μ) μ s (.pointer (some ⟨g, 0, none⟩))) {a : Act} {ρ : Operand → Option SV}
  (hρ : ∀ (x : Operand) (s : SV), ρ x = some s → D w (held A μ) μ s (a.eval x)) {o : Oper} {c : Call} (ho : o.op = .call c) {pre : Prop} {s : SV} (he : evCall E own ρ c = some (pre, s)) (hp : pre) :
  ∃ f vals, (execOp a.eval o).run E.P w = .ok (.enter f vals) w ∧ Calls E.P f vals w fun e w' => ∃ v, e = .returned v ∧ D w' (held A μ) μ s v ∧ Fr w.heap.size (fun _ => False) w w' := by
 unfold evCall at he
 split at he
 rotate_left
 ·
  cases he
 rename_i f hf
 split at he
 rotate_left
 ·
  cases he
 rename_i fid caps hρf
 simp only [Option.bind_eq_some_iff] at he
 obtain ⟨xs, hxs, ys, hys, k, hk, ⟨p, t⟩, hr, he⟩ := he
 split at he
 rotate_left
 ·
  cases he
 rename_i hcond
 simp only [Option.some.injEq, Prod.mk.injEq] at he
 obtain ⟨rfl, rfl⟩ := he
 have hfd := hρ _ _ hρf
 generalize hvf : a.eval f = vf at hfd
 obtain ⟨⟨fn, h1, h2, h3⟩, hS⟩ := hC.1 fid k hk
 cases hfd with
 | clo cvs hcl hcd =>
  have hD := DL_app (args_sound (a := a) hρ hxs) (⟨hcl, hcd⟩ : DL w (held A μ) μ caps cvs)
  refine ⟨fid, ((c.args.toList.map a.eval) ++ cvs).toArray, ?_, ?_⟩
  ·
   have hm : c.args.map a.eval = (c.args.toList.map a.eval).toArray := by apply Array.ext'; simp
   simp only [execOp, ho, resolve, hf, hvf, Deferred.ofValue, hm, Sem.run_bind, Sem.run_pure, Result.andThen_ok, invoke, callFunc, run_program, h1, h2, Bool.false_eq_true, if_false, h3]
   simp
  ·
   obtain ⟨l1, l2⟩ := mapM_get hys
   have conv : ∀ A' : Nat → Prop, (∀ b, A' b → held A μ b) → (((xs ++ caps).any SV.hasOsl) = true → ∀ b, A' b → A b) → DL w A' Nobody ys ((c.args.toList.map a.eval) ++ cvs) := by
    intro A' hA hosl
    refine ⟨by rw [hD.1, l1], fun i s v hs hv => ?_⟩
    have hlt : i < (xs ++ caps).length := by rw [← l1]; exact (List.getElem?_eq_some_iff.1 hs).1
    obtain ⟨y, hy, e⟩ := l2 i _ (List.getElem?_eq_getElem hlt)
    rw [hs] at hy
    cases hy
    exact roA_sound hO hsub hA (hD.2 i _ v (List.getElem?_eq_getElem hlt) hv) e (fun h => hosl (by simp only [List.any_eq_true]; exact ⟨_, List.getElem_mem hlt, h⟩))
   have hbd : ∀ b, held A μ b → b < w.heap.size := fun b hb => by
    rcases hb with hb | ⟨k, x, hk, hx⟩
    ·
     exact hO.bnd b hb
    ·
     exact (hO.rng k x b hk hx).1
   cases hos : (xs ++ caps).any SV.hasOsl with
   | false =>
    refine (hS (held A μ) w ys _ p t hbd (fun g q hg => ⟨(hglo g q hg).1, pure_mono (fun _ h => h) (hglo g q hg).2 (hglo g q hg).1⟩) (conv _ (fun _ h => h) (fun h => by rw [hos] at h; cases h)) hr hp).mono ?_
    rintro e w' ⟨v, rfl, hd, hfr⟩
    exact ⟨v, rfl, hd.keep ⟨Nat.le_refl _, fun _ _ _ => rfl, fun _ _ h => h, fun j x hx => by cases hx⟩, hfr⟩
   | true =>
    rw [hos] at hcond
    have hfl : t.flat2 = true := by simpa using hcond
    refine (hS A w ys _ p t hO.bnd (fun g q hg => ⟨(hglo g q hg).1, pure_mono (fun _ h => .inl h) (hglo g q hg).2 (hglo g q hg).1⟩) (conv A (fun _ h => .inl h) (fun _ _ h => h)) hr hp).mono ?_
    rintro e w' ⟨v, rfl, hd, hfr⟩
    exact ⟨v, rfl, flat2_D hfl hd, hfr⟩
theorem Fr.keeps {w' : World} (h : Fr w.heap.size (fun _ => False) w w') {H : Nat → Prop} : Keeps w w' H H μ μ :=
 ⟨h.size, fun b hb _ => h.block b hb (fun h => h), fun _ _ h => h, fun _ _ h => h⟩
theorem Own.calls {w' : World} (hO : Own B0 X A w μ own) (h : Fr w.heap.size (fun _ => False) w w') : Own B0 X A w' μ own :=
 ⟨fun k x hx => by
  obtain ⟨bl, e, hb⟩ := hO.blk k x hx
  exact ⟨bl, e, hb.keep h.keeps (fun b hb => h.block b (hO.rng k x b hx hb).1 (fun h => h))⟩, hO.inj,
  fun k x b hk hb => by obtain ⟨r1, r2⟩ := hO.rng k x b hk hb; exact ⟨Nat.lt_of_lt_of_le r1 h.size, r2⟩, fun b hb => Nat.lt_of_lt_of_le (hO.bnd b hb) h.size⟩
end
end Go.Proofs.YtmhhmaopnjfcgaaGreatDoor.V
