/-
  Parts of the proof: S1 S2 R2. Conditions: none.
-/
import Derived.Test.YtmhhmaopnjfcgaaGreatDoorTCc2
import Derived.Test.YtmhhmaopnjfcgaaGreatDoorRows
import Derived.Test.YtmhhmaopnjfcgaaGreatDoorChecked
namespace Go.Proofs.YtmhhmaopnjfcgaaGreatDoor.V
open Go
def stL : List TypeId := [
 26,
 100,
 37,
 243,
 84,
 65,
 31,
 223,
 67,
 267,
 26]
def stT : TypeId → Bool := fun t => stL.contains t
def tb (l : List Int) (i : Nat) : Int := l.getD i 0
def quartersRow (i : Nat) : List SV := [.int .i64 (tb [0, 1, 0, -1] i), .int .i64 (tb [-1, 0, 1, 0] i), .int .u8 (tb [2, 1, 2, 1] i), .int .i64 (tb [0, 1, 1, 0] i),
 .int .i64 (tb [0, 1, 0, -1] i), .int .i64 (tb [-1, 0, 1, 0] i), .int .u8 (tb [2, 3, 0, 1] i), .int .i64 (tb [0, 0, 0, 0] i), .int .i64 (tb [0, 0, 0, 0] i), .int .u8 (tb [1, 0, 3, 2] i), .int .i64 (tb [0, 0, 0, 0] i), .int .i64 (tb [0, 0, 0, 0] i), .int .u8 (tb [3, 2, 1, 0] i),
 .int .i64 (tb [0, 2, 2, 0] i), .int .i64 (tb [0, 2, 2, 0] i), .int .i64 (tb [2, 2, 0, 0] i), .int .i64 (tb [0, 0, 2, 2] i)]
def turnsRow (i : Nat) : List SV := [.int .i64 (tb [1, 0, -1, 0, -1, 0, 1, 0] i), .int .i64 (tb [0, -1, 0, 1, 0, -1, 0, 1] i), .int .i64 (tb [0, 1, 0, -1, 0, -1, 0, 1] i), .int .i64 (tb [1, 0, -1, 0, 1, 0, -1, 0] i)]
def glob0 : Nat → Option SV
 | 1 => some (.rel 4 8 turnsRow 0 0)
 | 2 => some (.rel 17 4 quartersRow 0 0)
 | _ => none
def ktT : TypeId → Option KT
 | 98 => some (.ints [.i64, .u8])
 | 356 => some (.ints [.i64, .u8])
 | 205 => some (.ints [.i64, .i64, .u8])
 | 261 => some (.int1 .u8)
 | 275 => some (.ints [.i64, .i64, .u8, .i64, .i64, .u8])
 | _ => none
abbrev Kon := List SV → Option (Prop × SV)
def tab (l : List (FuncId × Kon)) : FuncId → Option Kon := fun f => match l with
 | [] => none
 | (g, k) :: r => if g == f then some k else tab r f
def tabX (l : List (FuncId × EffK)) : FuncId → Option EffK := fun f => match l with
 | [] => none
 | (g, k) :: r => if g == f then some k else tabX r f
def tabH (l : List (FuncId × HK)) : FuncId → Option HK := fun f => match l with
 | [] => none
 | (g, k) :: r => if g == f then some k else tabH r f
noncomputable def EX (l : List (FuncId × Kon)) (x : List (FuncId × EffK)) (h : List (FuncId × HK)) (fz : Nat → Bool) (c2 : Bool) (gr : Nat → List Ghost) (na : Nat) (ax : Nat → Bool) (av : Mu) : Env := { P := Go.Proofs.Tryz.prog, C := tab l, glob := glob0, ng := 0, st := stT, X := tabX x, fz := fz, na := na, ax := ax, av := av, kt := ktT, Hc := tabH h, c2 := c2, gr := gr }
noncomputable abbrev E0 (l : List (FuncId × Kon)) : Env := EX l [] [] (fun _ => false) false (fun _ => []) 0 (fun _ => true) (fun _ => none)
abbrev PS (f : FuncId) (k : Kon) : Prop := PSound Go.Proofs.Tryz.prog glob0 f k
abbrev ES (f : FuncId) (e : EffK) : Prop := ESound Go.Proofs.Tryz.prog glob0 f e
abbrev HS (f : FuncId) (h : HK) : Prop := HSound Go.Proofs.Tryz.prog glob0 f h
theorem tab_sound {l : List (FuncId × Kon)} {x : List (FuncId × EffK)} {h : List (FuncId × HK)} {fz : Nat → Bool} {c2 : Bool} {gr : Nat → List Ghost} {na : Nat} {ax : Nat → Bool} {av : Mu} (hl : ∀ x ∈ l, PS x.1 x.2) (hx : ∀ y ∈ x, ES y.1 y.2) (hh : ∀ y ∈ h, HS y.1 y.2) : CSound (EX l x h fz c2 gr na ax av) := by
 refine ⟨?_, ?_, ?_⟩
 ·
  intro f k hk
  have key : ∀ (l : List (FuncId × Kon)), (∀ x ∈ l, PS x.1 x.2) → tab l f = some k → PS f k := by
   intro l
   induction l with
   | nil => intro _ h; cases h
   | cons x l ih =>
    intro h hk
    simp only [tab] at hk
    split at hk
    ·
     rename_i e
     cases hk
     have := h x (by simp)
     rw [beq_iff_eq.1 e] at this
     exact this
    ·
     exact ih (fun y hy => h y (by simp [hy])) hk
  exact key l hl hk
 ·
  intro f k hk
  have key : ∀ (l : List (FuncId × EffK)), (∀ x ∈ l, ES x.1 x.2) → tabX l f = some k → ES f k := by
   intro l
   induction l with
   | nil => intro _ h; cases h
   | cons x l ih =>
    intro h hk
    simp only [tabX] at hk
    split at hk
    ·
     rename_i e
     cases hk
     have := h x (by simp)
     rw [beq_iff_eq.1 e] at this
     exact this
    ·
     exact ih (fun y hy => h y (by simp [hy])) hk
  exact key x hx hk
 ·
  intro f k hk
  have key : ∀ (l : List (FuncId × HK)), (∀ x ∈ l, HS x.1 x.2) → tabH l f = some k → HS f k := by
   intro l
   induction l with
   | nil => intro _ h; cases h
   | cons x l ih =>
    intro h hk
    simp only [tabH] at hk
    split at hk
    ·
     rename_i e
     cases hk
     have := h x (by simp)
     rw [beq_iff_eq.1 e] at this
     exact this
    ·
     exact ih (fun y hy => h y (by simp [hy])) hk
  exact key h hh hk
def stOK (P : Program) (T : TypeId) : Bool := !P.stoodInHeld T && !P.eqGuardType P.depth T && match P.underlying T with
 | some (.struct fs) => fs.toList.all fun f => f.name != "_"
 | _ => false
theorem stOK_spec {P : Program} {T : TypeId} (h : stOK P T = true) : P.stoodInHeld T = false ∧ P.eqGuardType P.depth T = false ∧ ∃ fs, P.underlying T = some (.struct fs) ∧ ∀ f ∈ fs.toList, f.name ≠ "_" := by
 unfold stOK at h
 simp only [Bool.and_eq_true, Bool.not_eq_true'] at h
 obtain ⟨⟨h1, h2⟩, h3⟩ := h
 refine ⟨h1, h2, ?_⟩
 split at h3
 ·
  rename_i fs hfs
  refine ⟨fs, hfs, fun f hf => ?_⟩
  have := List.all_eq_true.1 h3 f hf
  simpa using this
 ·
  cases h3
theorem stL_all : (stL.all fun T => stOK Go.Proofs.Tryz.prog T) = true := by kernel_rfl
theorem st_spec : ∀ T, stT T = true → Go.Proofs.Tryz.prog.stoodInHeld T = false ∧ Go.Proofs.Tryz.prog.eqGuardType Go.Proofs.Tryz.prog.depth T = false ∧ ∃ fs, Go.Proofs.Tryz.prog.underlying T = some (.struct fs) ∧ ∀ f ∈ fs.toList, f.name ≠ "_" := by
 intro T hT
 exact stOK_spec (List.all_eq_true.1 stL_all T (List.contains_iff_mem.1 hT))
noncomputable def EB : Env := { P := Go.Proofs.Tryz.prog, C := fun _ => none, glob := fun _ => none, ng := 0, st := stT }
theorem EB_ok : EnvOK EB := ⟨st_spec, fun T K h => by cases h⟩
theorem dec2 (a b a' b' : Int) : (decide (a = a') && (decide (b = b') && true)) = decide ([a, b] = [a', b']) := by
 rw [Bool.eq_iff_iff]; simp
theorem dec3 (a b c a' b' c' : Int) : (decide (a = a') && (decide (b = b') && (decide (c = c') && true))) = decide ([a, b, c] = [a', b', c']) := by
 rw [Bool.eq_iff_iff]; simp
theorem dec6 (a b c d e f a' b' c' d' e' f' : Int) : ((decide (a = a') && (decide (b = b') && (decide (c = c') && true))) && ((decide (d = d') && (decide (e = e') && (decide (f = f') && true))) && true)) = decide ([a, b, c, d, e, f] = [a', b', c', d', e', f']) := by
 rw [Bool.eq_iff_iff]; simp [and_assoc]
theorem eq_unit (a b a' b' : Int) : eqTy EB 8 100 [.int .i64 a, .int .u8 b] [.int .i64 a', .int .u8 b'] = some (decide (a = a') && (decide (b = b') && true)) := by kernel_rfl
theorem law_unit : KLaw Go.Proofs.Tryz.prog 100 (.ints [.i64, .u8]) := klaw_ints EB_ok (by kernel_rfl) (fun us vs ha hb => by
 match us, vs, ha, hb with
 | [a, b], [a', b'], _, _ => rw [← dec2]; exact eq_unit a b a' b') (by kernel_rfl)
theorem eq_cell (a b c a' b' c' : Int) : eqTy EB 8 37 [.int .i64 a, .int .i64 b, .int .u8 c] [.int .i64 a', .int .i64 b', .int .u8 c'] = some (decide (a = a') && (decide (b = b') && (decide (c = c') && true))) := by kernel_rfl
theorem law_cell : KLaw Go.Proofs.Tryz.prog 37 (.ints [.i64, .i64, .u8]) := klaw_ints EB_ok (by kernel_rfl) (fun us vs ha hb => by
 match us, vs, ha, hb with
 | [a, b, c], [a', b', c'], _, _ => rw [← dec3]; exact eq_cell a b c a' b' c') (by kernel_rfl)
theorem eq_cell2 (a b c d e f a' b' c' d' e' f' : Int) : eqTy EB 8 281 [.int .i64 a, .int .i64 b, .int .u8 c, .int .i64 d, .int .i64 e, .int .u8 f] [.int .i64 a', .int .i64 b', .int .u8 c', .int .i64 d', .int .i64 e', .int .u8 f'] = some ((decide (a = a') && (decide (b = b') && (decide (c = c') && true))) && ((decide (d = d') && (decide (e = e') && (decide (f = f') && true))) && true)) := by kernel_rfl
theorem law_cell2 : KLaw Go.Proofs.Tryz.prog 281 (.ints [.i64, .i64, .u8, .i64, .i64, .u8]) := klaw_ints EB_ok (by kernel_rfl) (fun us vs ha hb => by
 match us, vs, ha, hb with
 | [a, b, c, d, e, f], [a', b', c', d', e', f'], _, _ => rw [← dec6]; exact eq_cell2 a b c d e f a' b' c' d' e' f') (by kernel_rfl)
theorem kt_spec : ∀ T K, ktT T = some K → ∃ key elem, Go.Proofs.Tryz.prog.underlying T = some (.map key elem) ∧ KLaw Go.Proofs.Tryz.prog key K := by
 intro T K h
 unfold ktT at h
 split at h <;> cases h
 ·
  exact ⟨_, _, (by kernel_rfl : Go.Proofs.Tryz.prog.underlying 98 = some (.map 100 82)), law_unit⟩
 ·
  exact ⟨_, _, (by kernel_rfl : Go.Proofs.Tryz.prog.underlying 356 = some (.map 100 4)), law_unit⟩
 ·
  exact ⟨_, _, (by kernel_rfl : Go.Proofs.Tryz.prog.underlying 205 = some (.map 37 3)), law_cell⟩
 ·
  exact ⟨_, _, (by kernel_rfl : Go.Proofs.Tryz.prog.underlying 261 = some (.map 76 260)), klaw_int1 (by kernel_rfl)⟩
 ·
  exact ⟨_, _, (by kernel_rfl : Go.Proofs.Tryz.prog.underlying 275 = some (.map 281 284)), law_cell2⟩
theorem EX_ok (l : List (FuncId × Kon)) (x : List (FuncId × EffK)) (h : List (FuncId × HK)) (fz : Nat → Bool) (c2 : Bool) (gr : Nat → List Ghost) (na : Nat) (ax : Nat → Bool) (av : Mu) : EnvOK (EX l x h fz c2 gr na ax av) := ⟨st_spec, kt_spec⟩
theorem mixed : Go.Proofs.Tryz.prog.follows .mixedOrders = true := by kernel_rfl
structure Cs where
 l : List (FuncId × Kon) := []
 x : List (FuncId × EffK) := []
 h : List (FuncId × HK) := []
 fz : Nat → Bool := fun _ => false
 c2 : Bool := false
 gr : Nat → List Ghost := fun _ => []
 G : GhX := {}
def Cs.OK (c : Cs) : Prop := (∀ x ∈ c.l, PS x.1 x.2) ∧ (∀ y ∈ c.x, ES y.1 y.2) ∧ ∀ y ∈ c.h, HS y.1 y.2
theorem conG {f : FuncId} {fn : Func} (c : Cs) (hc : c.OK) (F : Fam) (I : F.ι → Nat → Option Inv) (k : Kon) (hk : Law F k) (hlen : ∀ i, (F.args i).length ≤ fn.ntmps)
  (hf : Go.Proofs.Tryz.prog.funcs[f]? = some fn) (hb : fn.body.isSome = true) (hn : (fn.name == "runtime.NumGoroutine") = false) (hco : codeOK c.c2 (fn.body.getD .skip) = true)
  (H : ∀ i, F.pre i → wpC (EX c.l c.x c.h c.fz c.c2 c.gr 0 (fun _ => true) (fun _ => none)) fn.ntmps (I i) (fn.body.getD .skip) ⟨retP (EX c.l c.x c.h c.fz c.c2 c.gr 0 (fun _ => true) (fun _ => none)) fn (F.res i), fun _ _ => False, retP (EX c.l c.x c.h c.fz c.c2 c.gr 0 (fun _ => true) (fun _ => none)) fn (F.res i)⟩ ⟨initE 0 (F.args i), []⟩) : PS f k := by
 cases hbb : fn.body with
 | none => rw [hbb] at hb; cases hb
 | some code =>
  rw [hbb] at hco H
  exact verify (EX c.l c.x c.h c.fz c.c2 c.gr 0 (fun _ => true) (fun _ => none)) rfl rfl rfl (EX_ok ..) (tab_sound hc.1 hc.2.1 hc.2.2) mixed hf hbb hn F I k hk hlen hco H
theorem con {f : FuncId} {fn : Func} (l : List (FuncId × Kon)) (hl : ∀ x ∈ l, PS x.1 x.2) (F : Fam) (I : F.ι → Nat → Option Inv) (k : Kon) (hk : Law F k) (hlen : ∀ i, (F.args i).length ≤ fn.ntmps)
  (hf : Go.Proofs.Tryz.prog.funcs[f]? = some fn) (hb : fn.body.isSome = true) (hn : (fn.name == "runtime.NumGoroutine") = false) (hco : codeOK false (fn.body.getD .skip) = true)
  (H : ∀ i, F.pre i → wpC (E0 l) fn.ntmps (I i) (fn.body.getD .skip) ⟨retP (E0 l) fn (F.res i), fun _ _ => False, retP (E0 l) fn (F.res i)⟩ ⟨initE 0 (F.args i), []⟩) : PS f k :=
 conG { l := l } ⟨hl, by simp, by simp⟩ F I k hk hlen hf hb hn hco H
theorem stopA {p : Prop} (h : Ask p) : Ask p := h
theorem stopE {α : Type} {a b : α} (h : a = b) : a = b := h
theorem stopF (h : False) : False := h
theorem stopL {a b : Option Entry} (h : Late a b) : Late a b := h
theorem stopK {k : IntKind} {n : Int} (h : inK k n) : inK k n := h
theorem Law.of_eq {F : Fam} {k : Kon} (h : ∀ args pre s, k args = some (pre, s) → pre → ∃ i, le2L args (F.args i) ∧ F.pre i ∧ s = F.res i) : Law F k := h
end Go.Proofs.YtmhhmaopnjfcgaaGreatDoor.V
namespace Go.Proofs.YtmhhmaopnjfcgaaGreatDoor.V
open Go Go.RowKit
theorem size_of_var {P : Program} {w : World} {n : String} {g : Nat} {cs : Array Value} (hg : P.globalNamed n = some g) (h : w.var? P n = some cs) : g < w.heap.size := by
 simp only [World.var?, hg, Option.bind_some] at h
 split at h
 ·
  rename_i hc; exact (Array.getElem?_eq_some_iff.1 hc).1
 ·
  cases h
theorem laidOut : laidOutB Go.Proofs.Tryz.prog = true := by kernel_rfl
theorem tab_of_laid {W : World} {A : Nat → Prop} (hA : ∀ b, ¬ A b) {n : String} {g g0 : Nat} {t : TypeId} {cs : Array Value} {fuel : Nat} {d : DataW Unit} {p : List MemPlace} {sz m : Nat} {f : Nat → List SV}
  (hg : Go.Proofs.Tryz.prog.globalNamed n = some g) (ht : (Go.Proofs.Tryz.prog.globals[g]?).map (·.type) = some t) (hv : W.var? Go.Proofs.Tryz.prog n = some cs) (hd : DataW.trod (fun _ => ()) Go.Proofs.Tryz.prog W 0 (fun _ => true) false fuel t cs.toList = some (d, p))
  (eg : Go.Proofs.Tryz.prog.globalNamed n = some g0) (hf : (Go.Proofs.Tryz.prog.globals[g0]?).map (fun gl => flatT Go.Proofs.Tryz.prog 10 gl.type && isVar Go.Proofs.Tryz.prog gl.type) = some true) (hp : plainD d = true) (hm : 0 < m) (hk : rowChk sz m f (flatD d) = true) :
  (SV.rel sz m f 0 0).pure = true ∧ D W A Nobody (.rel sz m f 0 0) (.pointer (some ⟨g0, 0, none⟩)) := by
 obtain rfl := Option.some.inj (eg.symm.trans hg)
 obtain ⟨gl, hgl, rfl⟩ := Option.map_eq_some_iff.1 ht
 rw [hgl] at hf
 simp only [Option.map_some, Option.some.injEq, Bool.and_eq_true] at hf
 have e := trod_flat laidOut fuel gl.type cs.toList (d, p) 10 hf.1 hf.2 hd hp
 refine rel_of_cells (cs := cs.toList) hm (hA g0) (size_of_var hg hv) (fun k => ?_) (by rw [e]; exact hk)
 rw [World.var?_cell hg hv k]; simp
open Classical in
noncomputable def topK (F : Fam) : List SV → Option (Prop × SV) := fun zs => if ∃ i, F.pre i ∧ zs = F.args i then some (True, .bool true) else none
theorem ps_top {f : FuncId} {F : Fam} (this : PS f (topK F)) (i : F.ι) (hp : F.pre i)
  {w : World} {vals : List Value} (hg : ∀ g t, glob0 g = some t → t.pure = true ∧ D w (fun _ => False) Nobody t (.pointer (some ⟨g, 0, none⟩))) (hD : DL w (fun _ => False) Nobody (F.args i) vals) :
  Calls Go.Proofs.Tryz.prog f vals.toArray w fun e w' => e = .returned (.bool true) ∧ Fr w.heap.size (fun _ => False) w w' := by
 refine (this.2 (fun _ => False) w (F.args i) vals True (.bool true) (fun b h => h.elim) hg hD ?_ trivial).mono ?_
 ·
  unfold topK
  rw [if_pos ⟨i, hp, rfl⟩]
 ·
  rintro e w' ⟨v, rfl, hv, hfr⟩
  cases hv
  exact ⟨rfl, hfr⟩
theorem top {f : FuncId} {fn : Func} (c : Cs) (hc : c.OK) (F : Fam) (I : F.ι → Nat → Option Inv) (hres : ∀ i, F.res i = .bool true) (hle : ∀ i, le2L (F.args i) (F.args i)) (hlen : ∀ i, (F.args i).length ≤ fn.ntmps)
  (hf : Go.Proofs.Tryz.prog.funcs[f]? = some fn) (hb : fn.body.isSome = true) (hn : (fn.name == "runtime.NumGoroutine") = false) (hco : codeOK c.c2 (fn.body.getD .skip) = true)
  (H : ∀ i, F.pre i → wpC (EX c.l c.x c.h c.fz c.c2 c.gr 0 (fun _ => true) (fun _ => none)) fn.ntmps (I i) (fn.body.getD .skip) ⟨retP (EX c.l c.x c.h c.fz c.c2 c.gr 0 (fun _ => true) (fun _ => none)) fn (F.res i), fun _ _ => False, retP (EX c.l c.x c.h c.fz c.c2 c.gr 0 (fun _ => true) (fun _ => none)) fn (F.res i)⟩ ⟨initE 0 (F.args i), []⟩) (i : F.ι) (hp : F.pre i)
  {w : World} {vals : List Value} (hg : ∀ g t, glob0 g = some t → t.pure = true ∧ D w (fun _ => False) Nobody t (.pointer (some ⟨g, 0, none⟩))) (hD : DL w (fun _ => False) Nobody (F.args i) vals) :
  Calls Go.Proofs.Tryz.prog f vals.toArray w fun e w' => e = .returned (.bool true) ∧ Fr w.heap.size (fun _ => False) w w' := by
 have := conG c hc F I (topK F) (fun zs p s hk hp => by
  unfold topK at hk
  split at hk
  ·
   rename_i hex
   obtain ⟨i, hi, rfl⟩ := hex
   cases hk
   exact ⟨i, hle i, hi, (hres i).symm⟩
  ·
   cases hk) hlen hf hb hn hco H
 exact ps_top this i hp hg hD
theorem below_of_fr {w w' : World} (h : Fr w.heap.size (fun _ => False) w w') : Below w.heap.size w w' := ⟨h.os, h.tape, h.output, h.size, fun k hk => h.block k hk (fun h => h)⟩
theorem trodAll_below {H : Type} {enc : TypeId × Value → H} {P : Program} (hl : laidOutB P = true) {W W' : World} (hb : Below W.heap.size W W') : ∀ {ts : List TypeId} {vs : List Value} {ds : List (DataW H)} {ps : List MemPlace},
  (ts.all fun t => P.readableRec t && decide (t < P.types.size)) = true → DataW.TrodAll enc P W 0 (fun _ => true) true ts vs ds ps → (∀ x ∈ ps, x.block < W.heap.size) → DataW.TrodAll enc P W' 0 (fun b => decide (b < W.heap.size)) true ts vs ds ps
 | [], vs, ds, ps, _, h, _ => by
  obtain ⟨rfl, rfl, rfl⟩ := Go.ChangeShapes.trodAll_nil h
  rfl
 | t :: ts, vs, ds, ps, hr, h, hlt => by
  obtain ⟨v, vs', d, ds', p, q, rfl, rfl, rfl, h1, h2⟩ := Go.ChangeShapes.trodAll_cons h
  simp only [List.all_cons, Bool.and_eq_true, decide_eq_true_eq] at hr
  exact ⟨p, q, Below.trod hl hr.1.1 hr.1.2 h1 hb (fun x hx => hlt x (by simp [hx])), trodAll_below hl hb (by simpa using hr.2) h2 (fun x hx => hlt x (by simp [hx])), rfl⟩
theorem law_post {H : Type} {enc : TypeId × Value → H} {P : Program} (hl : laidOutB P = true) {fn : Func} {s : ChangeSpec} {tb : TypeId} {W W' : World} {args : Array Value} {ds gs : List (DataW H)} {before : List MemPlace} (hv : s.vars = []) (hrt : fn.resultTypes = #[tb]) (htb : P.underlying tb = some .bool)
  (hsp : s.fn H (ds ++ gs) = { results := [.lit (.bool true)], args := ds }) (hr : (fn.params.toList.all fun t => P.readableRec t && decide (t < P.types.size)) = true) (hW : DataW.Whole enc P fn.params.toList s.vars false W args.toList ds gs before) (hb : Below W.heap.size W W') :
  s.post enc P fn false true false false W args (.bool true) W' := by
 have hW' := hW
 obtain ⟨p, q, hA, hV, rfl, hfz, hnd⟩ := hW'
 rw [hv] at hV
 obtain ⟨rfl, rfl⟩ := Go.ChangeShapes.trodVars_none hV
 refine ⟨ds, [], p ++ [], [], p, [], hW, ?_, ?_, ?_, hb.frame _, fun h => by cases h⟩
 ·
  rw [hsp, hrt]
  exact Go.ChangeShapes.trodAll_mk1 (shut_bool htb true)
 ·
  rw [hsp]
  refine trodAll_below hl hb hr hA (fun x hx => ?_)
  have := hW.lt x (by simp [hx])
  simpa using this
 ·
  rw [hsp, hv]
  rfl
end Go.Proofs.YtmhhmaopnjfcgaaGreatDoor.V
