/-
  Parts of the proof: R2. Conditions: none.
-/
import Derived.Test.YteodgliliglipaaGreatDoorGCc2
import Derived.Test.YteodgliliglipaaGreatDoorChecked
namespace Go.Proofs.YteodgliliglipaaGreatDoor.V
open Go Go.RowKit
theorem size_of_var {P : Program} {w : World} {n : String} {g : Nat} {cs : Array Value} (hg : P.globalNamed n = some g) (h : w.var? P n = some cs) : g < w.heap.size := by
 simp only [World.var?, hg, Option.bind_some] at h
 split at h
 ·
  rename_i hc; exact (Array.getElem?_eq_some_iff.1 hc).1
 ·
  cases h
theorem laidOut : laidOutB Go.Proofs.Tryz.prog = true := by kernel_rfl
theorem tab_of_laid {W : World} {A : Nat → Prop} (hA : ∀ b, ¬ A b) {n : String} {g g0 : Nat} {t : TypeId} {cs : Array Value} {fuel : Nat} {d : DataW Unit} {p : List MemPlace} {sz m : Nat} {f : Nat → List SV}
  (hg : Go.Proofs.Tryz.prog.globalNamed n = some g) (ht : (Go.Proofs.Tryz.prog.globals[g]?).map (·.type) = some t) (hv : W.var? Go.Proofs.Tryz.prog n = some cs) (hd : DataW.trod (fun _ => ()) Go.Proofs.Tryz.prog W 0 (fun _ => true) false fuel t cs.toList = some (d, p))
  (eg : Go.Proofs.Tryz.prog.globalNamed n = some g0) (hf : (Go.Proofs.Tryz.prog.globals[g0]?).map (fun gl => flatT Go.Proofs.Tryz.prog 10 gl.type && isVar Go.Proofs.Tryz.prog gl.type) = some true) (hp : plainD d = true) (hm : 0 < m) (hk : rowChk sz m f (flatD d) = true) :
  (SV.rel sz m f 0 0).pure = true ∧ D W A Nobody (.rel sz m f 0 0) (.pointer (some ⟨g0, 0, none⟩)) := by
 obtain rfl := Option.some.inj (eg.symm.trans hg)
 obtain ⟨gl, hgl, rfl⟩ := Option.map_eq_some_iff.1 ht
 rw [hgl] at hf
 simp only [Option.map_some, Option.some.injEq, Bool.and_eq_true] at hf
 have e := trod_flat laidOut fuel gl.type cs.toList (d, p) 10 hf.1 hf.2 hd hp
 refine rel_of_cells (cs := cs.toList) hm (hA g0) (size_of_var hg hv) (fun k => ?_) (by rw [e]; exact hk)
 rw [World.var?_cell hg hv k]; simp
open Classical in
noncomputable def topK (F : Fam) : List SV → Option (Prop × SV) := fun zs => if ∃ i, F.pre i ∧ zs = F.args i then some (True, .bool true) else none
theorem ps_top {f : FuncId} {F : Fam} (this : PS f (topK F)) (i : F.ι) (hp : F.pre i)
  {w : World} {vals : List Value} (hg : ∀ g t, glob0 g = some t → t.pure = true ∧ D w (fun _ => False) Nobody t (.pointer (some ⟨g, 0, none⟩))) (hD : DL w (fun _ => False) Nobody (F.args i) vals) :
  Calls Go.Proofs.Tryz.prog f vals.toArray w fun e w' => e = .returned (.bool true) ∧ Fr w.heap.size (fun _ => False) w w' := by
 refine (this.2 (fun _ => False) w (F.args i) vals True (.bool true) (fun b h => h.elim) hg hD ?_ trivial).mono ?_
 ·
  unfold topK
  rw [if_pos ⟨i, hp, rfl⟩]
 ·
  rintro e w' ⟨v, rfl, hv, hfr⟩
  cases hv
  exact ⟨rfl, hfr⟩
theorem top {f : FuncId} {fn : Func} (c : Cs) (hc : c.OK) (F : Fam) (I : F.ι → Nat → Option Inv) (hres : ∀ i, F.res i = .bool true) (hle : ∀ i, le2L (F.args i) (F.args i)) (hlen : ∀ i, (F.args i).length ≤ fn.ntmps)
  (hf : Go.Proofs.Tryz.prog.funcs[f]? = some fn) (hb : fn.body.isSome = true) (hn : (fn.name == "runtime.NumGoroutine") = false) (hco : codeOK c.c2 (fn.body.getD .skip) = true)
  (H : ∀ i, F.pre i → wpC (EX c.l c.x c.h c.fz c.c2 c.gr 0 (fun _ => true) (fun _ => none)) fn.ntmps (I i) (fn.body.getD .skip) ⟨retP (EX c.l c.x c.h c.fz c.c2 c.gr 0 (fun _ => true) (fun _ => none)) fn (F.res i), fun _ _ => False, retP (EX c.l c.x c.h c.fz c.c2 c.gr 0 (fun _ => true) (fun _ => none)) fn (F.res i)⟩ ⟨initE 0 (F.args i), []⟩) (i : F.ι) (hp : F.pre i)
  {w : World} {vals : List Value} (hg : ∀ g t, glob0 g = some t → t.pure = true ∧ D w (fun _ => False) Nobody t (.pointer (some ⟨g, 0, none⟩))) (hD : DL w (fun _ => False) Nobody (F.args i) vals) :
  Calls Go.Proofs.Tryz.prog f vals.toArray w fun e w' => e = .returned (.bool true) ∧ Fr w.heap.size (fun _ => False) w w' := by
 have := conG c hc F I (topK F) (fun zs p s hk hp => by
  unfold topK at hk
  split at hk
  ·
   rename_i hex
   obtain ⟨i, hi, rfl⟩ := hex
   cases hk
   exact ⟨i, hle i, hi, (hres i).symm⟩
  ·
   cases hk) hlen hf hb hn hco H
 exact ps_top this i hp hg hD
theorem below_of_fr {w w' : World} (h : Fr w.heap.size (fun _ => False) w w') : Below w.heap.size w w' := ⟨h.os, h.tape, h.output, h.size, fun k hk => h.block k hk (fun h => h)⟩
theorem trodAll_below {H : Type} {enc : TypeId × Value → H} {P : Program} (hl : laidOutB P = true) {W W' : World} (hb : Below W.heap.size W W') : ∀ {ts : List TypeId} {vs : List Value} {ds : List (DataW H)} {ps : List MemPlace},
  (ts.all fun t => P.readableRec t && decide (t < P.types.size)) = true → DataW.TrodAll enc P W 0 (fun _ => true) true ts vs ds ps → (∀ x ∈ ps, x.block < W.heap.size) → DataW.TrodAll enc P W' 0 (fun b => decide (b < W.heap.size)) true ts vs ds ps
 | [], vs, ds, ps, _, h, _ => by
  obtain ⟨rfl, rfl, rfl⟩ := Go.ChangeShapes.trodAll_nil h
  rfl
 | t :: ts, vs, ds, ps, hr, h, hlt => by
  obtain ⟨v, vs', d, ds', p, q, rfl, rfl, rfl, h1, h2⟩ := Go.ChangeShapes.trodAll_cons h
  simp only [List.all_cons, Bool.and_eq_true, decide_eq_true_eq] at hr
  exact ⟨p, q, Below.trod hl hr.1.1 hr.1.2 h1 hb (fun x hx => hlt x (by simp [hx])), trodAll_below hl hb (by simpa using hr.2) h2 (fun x hx => hlt x (by simp [hx])), rfl⟩
theorem law_post {H : Type} {enc : TypeId × Value → H} {P : Program} (hl : laidOutB P = true) {fn : Func} {s : ChangeSpec} {tb : TypeId} {W W' : World} {args : Array Value} {ds gs : List (DataW H)} {before : List MemPlace} (hv : s.vars = []) (hrt : fn.resultTypes = #[tb]) (htb : P.underlying tb = some .bool)
  (hsp : s.fn H (ds ++ gs) = { results := [.lit (.bool true)], args := ds }) (hr : (fn.params.toList.all fun t => P.readableRec t && decide (t < P.types.size)) = true) (hW : DataW.Whole enc P fn.params.toList s.vars false W args.toList ds gs before) (hb : Below W.heap.size W W') :
  s.post enc P fn false true false false W args (.bool true) W' := by
 have hW' := hW
 obtain ⟨p, q, hA, hV, rfl, hfz, hnd⟩ := hW'
 rw [hv] at hV
 obtain ⟨rfl, rfl⟩ := Go.ChangeShapes.trodVars_none hV
 refine ⟨ds, [], p ++ [], [], p, [], hW, ?_, ?_, ?_, hb.frame _, fun h => by cases h⟩
 ·
  rw [hsp, hrt]
  exact Go.ChangeShapes.trodAll_mk1 (shut_bool htb true)
 ·
  rw [hsp]
  refine trodAll_below hl hb hr hA (fun x hx => ?_)
  have := hW.lt x (by simp [hx])
  simpa using this
 ·
  rw [hsp, hv]
  rfl
end Go.Proofs.YteodgliliglipaaGreatDoor.V
