/-
  Parts of the proof: V11 V12 V13 V14 E1 V15 V16 W1 W2. Conditions: none.
-/
import Derived.Test.YthfkpmobmnfgcaaDoorBc1
/-
  All value operations together, over symbolic operands. Conditions: none.
-/
namespace Go.Proofs.YthfkpmobmnfgcaaDoor.V
open Go

def optO (ρ : Operand → Option SV) : Option Operand → Option (Option SV)
  | none => none
  | some x => some (ρ x)

def evCallB (E : Env) (own : List Blk) (ρ : Operand → Option SV) (c : Call) : Option (Prop × SV) :=
  match c.callee with
  | .builtin b => (c.args.toList.mapM ρ).bind fun xs => evBuiltin E.P own b c.argTypes.toList xs
  | _ => none

def evVal (E : Env) (own : List Blk) (ρ : Operand → Option SV) (op : Op) : Option (Prop × SV) :=
  match op with
  | .move x => (ρ x).map fun s => (True, s)
  | .assign x => (ρ x).map fun s => (True, s)
  | .nilCheck x => match ρ x with
    | some (.own k o) => some (True, .own k o)
    | some (.oel k sz i o) => some (True, .oel k sz i o)
    | some (.rel sz n f i o) => some (True, .rel sz n f i o)
    | some (.clo f cs) => some (True, .clo f cs)
    | _ => none
  | .load T x => (ρ x).bind fun p => evLoad E.P own T p
  | .fieldAddr T x f => (ρ x).bind fun p => evFieldAddr E.P T f p
  | .field T x f => (ρ x).bind fun p => evField E.P T f p
  | .indexAddr T x i => (ρ x).bind fun p => (ρ i).bind fun n => evIndexAddr E.P own T p n
  | .binOp b T x y _ => (ρ x).bind fun s => (ρ y).bind fun t => evBinE E b T s t
  | .unOp u _ x => (ρ x).bind fun s => evUn u s
  | .convert S T x => (ρ x).bind fun s => evConv E.P S T s
  | .extract x i => (ρ x).bind fun s => evExtract s i
  | .build T parts => (parts.toList.mapM fun (p : Nat × Operand) => (ρ p.2).map fun s => (p.1, s)).bind fun ps => evBuild E.P T ps
  | .slice T x lo hi mx => (ρ x).bind fun s => evSlice E.P own T s (optO ρ lo) (optO ρ hi) (optO ρ mx)
  | .makeFunc (.func f) first caps => if first.isEmpty then (caps.toList.mapM ρ).map fun cs => (True, .clo f cs) else none
  | .call c => evCallB E own ρ c
  | _ => none

section
variable {E : Env} {w : World} {μ : Mu} {B0 : Nat} {X A : Nat → Prop} {own ownN : List Blk} {a : Act} {ρ : Operand → Option SV}

theorem args_sound (hρ : ∀ (x : Operand) (s : SV), ρ x = some s → D w (held A μ) μ s (a.eval x)) {xs : List Operand} {ss : List SV} (h : xs.mapM ρ = some ss) :
    DL w (held A μ) μ ss (xs.map a.eval) := by
  obtain ⟨h1, h2⟩ := mapM_get h
  refine ⟨by simp [h1], fun i s v hs hv => ?_⟩
  simp only [List.getElem?_map, Option.map_eq_some_iff] at hv
  obtain ⟨x, hx, rfl⟩ := hv
  obtain ⟨y, hy, e⟩ := h2 i x hx
  rw [hs] at hy
  cases hy
  exact hρ x s e

theorem builtin_sound (hO : Own B0 X A w μ ownN) (hsub : ∀ (k : Nat) (bl : Blk), own[k]? = some bl → ownN[k]? = some bl) {b : Builtin} {ts : List TypeId} {ty : TypeId} {ss : List SV} {vs : List Value} {s : SV} {pre : Prop} {cs : Array Bool}
    (hD : DL w (held A μ) μ ss vs) (he : evBuiltin E.P own b ts ss = some (pre, s)) : ∃ r, (builtin b ts.toArray ty cs vs.toArray).run E.P w = .ok (.value r) w ∧ D w (held A μ) μ s r := by
  unfold evBuiltin at he
  split at he
  · rename_i T x
    split at he
    · rename_i e hT
      have hu := isSliceB_sound hT
      simp only [Option.map_eq_some_iff, Prod.mk.injEq] at he
      obtain ⟨n, hn, rfl, rfl⟩ := he
      match vs, hD with
      | [v], hD =>
        obtain ⟨ad, m, rfl, _, _⟩ := lenSV_sound hO hsub (hD.2 0 x v rfl rfl) hn
        refine ⟨_, ?_, .int⟩
        simp [builtin, Builtin.len_, run_underlying hu, goInt]
      | [], hD => exact absurd hD.1 (by simp)
      | _ :: _ :: _, hD => exact absurd hD.1 (by simp)
    · cases he
  · rename_i T x
    split at he
    · rename_i e hT
      have hu := isSliceB_sound hT
      simp only [Option.map_eq_some_iff, Prod.mk.injEq] at he
      obtain ⟨n, hn, rfl, rfl⟩ := he
      match vs, hD with
      | [v], hD =>
        obtain ⟨ad, m, rfl⟩ := capSV_sound hO hsub (hD.2 0 x v rfl rfl) hn
        refine ⟨_, ?_, .int⟩
        simp [builtin, Builtin.cap_, run_underlying hu, goInt]
      | [], hD => exact absurd hD.1 (by simp)
      | _ :: _ :: _, hD => exact absurd hD.1 (by simp)
    · cases he
  · rename_i k a k' b
    cases he
    match vs, hD with
    | [u, v], hD =>
      have h1 := hD.2 0 _ u rfl rfl
      have h2 := hD.2 1 _ v rfl rfl
      cases h1; cases h2
      refine ⟨_, ?_, .int⟩
      simp [builtin, run_min2]
    | [], hD => exact absurd hD.1 (by simp)
    | [_], hD => exact absurd hD.1 (by simp)
    | _ :: _ :: _ :: _, hD => exact absurd hD.1 (by simp)
  · rename_i k a k' b
    cases he
    match vs, hD with
    | [u, v], hD =>
      have h1 := hD.2 0 _ u rfl rfl
      have h2 := hD.2 1 _ v rfl rfl
      cases h1; cases h2
      refine ⟨_, ?_, .int⟩
      simp [builtin, run_max2]
    | [], hD => exact absurd hD.1 (by simp)
    | [_], hD => exact absurd hD.1 (by simp)
    | _ :: _ :: _ :: _, hD => exact absurd hD.1 (by simp)
  · cases he

theorem val_sound (hE : EnvOK E) (hO : Own B0 X A w μ ownN) (hsub : ∀ (k : Nat) (bl : Blk), own[k]? = some bl → ownN[k]? = some bl) (hρ : ∀ (x : Operand) (s : SV), ρ x = some s → D w (held A μ) μ s (a.eval x)) {o : Oper} {s : SV} {pre : Prop}
    (he : evVal E own ρ o.op = some (pre, s)) (hp : pre) : ∃ r, (execOp a.eval o).run E.P w = .ok (.value r) w ∧ D w (held A μ) μ s r := by
  obtain ⟨dst, op, type, pos, after, guard⟩ := o
  simp only at he
  unfold evVal at he
  split at he
  · simp only [Option.map_eq_some_iff, Prod.mk.injEq] at he
    obtain ⟨t, ht, rfl, rfl⟩ := he
    exact ⟨_, by simp [execOp], hρ _ _ ht⟩
  · simp only [Option.map_eq_some_iff, Prod.mk.injEq] at he
    obtain ⟨t, ht, rfl, rfl⟩ := he
    exact ⟨_, by simp [execOp], hρ _ _ ht⟩
  · rename_i x
    split at he <;> try cases he
    all_goals
      have hd := hρ _ _ (by assumption)
      refine ⟨_, ?_, hd⟩
      generalize hv : a.eval x = v at hd
      cases hd
      simp [execOp, hv]
  · simp only [Option.bind_eq_some_iff] at he
    obtain ⟨p, hx, he⟩ := he
    obtain ⟨u, h1, h2⟩ := load_sound hO hsub (hρ _ _ hx) he hp
    exact ⟨u, by simp [execOp, h1], h2⟩
  · simp only [Option.bind_eq_some_iff] at he
    obtain ⟨p, hx, he⟩ := he
    obtain ⟨u, h1, h2⟩ := fieldAddr_sound (w := w) (hρ _ _ hx) he
    exact ⟨u, by simp [execOp, h1], h2⟩
  · simp only [Option.bind_eq_some_iff] at he
    obtain ⟨p, hx, he⟩ := he
    obtain ⟨u, h1, h2⟩ := field_sound (w := w) (hρ _ _ hx) he
    exact ⟨u, by simp [execOp, h1], h2⟩
  · simp only [Option.bind_eq_some_iff] at he
    obtain ⟨p, hx, n, hn, he⟩ := he
    obtain ⟨u, h1, h2⟩ := indexAddr_sound hO hsub (hρ _ _ hx) (hρ _ _ hn) he hp
    exact ⟨u, by simp [execOp, h1], h2⟩
  · rename_i b T x y t
    simp only [Option.bind_eq_some_iff] at he
    obtain ⟨s1, hx, s2, hy, he⟩ := he
    obtain ⟨u, h1, h2⟩ := binE_sound hE (xo := x) (yo := y) (hρ _ _ hx) (hρ _ _ hy) he hp
    refine ⟨u, ?_, h2⟩
    simp only [execOp]
    rw [Sem.run_bind, h1]
    simp
  · simp only [Option.bind_eq_some_iff] at he
    obtain ⟨p, hx, he⟩ := he
    obtain ⟨u, h1, h2⟩ := un_sound (P := E.P) (hρ _ _ hx) he hp
    exact ⟨u, by simp [execOp, h1], h2⟩
  · simp only [Option.bind_eq_some_iff] at he
    obtain ⟨p, hx, he⟩ := he
    obtain ⟨u, h1, h2⟩ := conv_sound (hρ _ _ hx) he hp
    exact ⟨u, by simp [execOp, h1], h2⟩
  · simp only [Option.bind_eq_some_iff] at he
    obtain ⟨p, hx, he⟩ := he
    obtain ⟨u, h1, h2⟩ := extract_sound (P := E.P) (hρ _ _ hx) he
    exact ⟨u, by simp [execOp, h1], h2⟩
  · rename_i T parts
    simp only [Option.bind_eq_some_iff] at he
    obtain ⟨ps, hps, he⟩ := he
    obtain ⟨l1, l2⟩ := mapM_get hps
    obtain ⟨u, h1, h2⟩ := build_sound (w := w) (H := held A μ) (μ := μ) (ps := parts.toList.map fun p => (p.1, a.eval p.2)) he (by simp [l1]) (fun i j s hs => by
      have hlt : i < parts.toList.length := by rw [← l1]; exact (List.getElem?_eq_some_iff.1 hs).1
      obtain ⟨y, hy, e⟩ := l2 i _ (List.getElem?_eq_getElem hlt)
      rw [hs] at hy
      cases hy
      simp only [Option.map_eq_some_iff, Prod.mk.injEq] at e
      obtain ⟨t, ht, e1, rfl⟩ := e
      refine ⟨a.eval (parts.toList[i]).2, ?_, hρ _ _ ht⟩
      rw [List.getElem?_map, List.getElem?_eq_getElem hlt, ← e1]
      rfl)
    refine ⟨u, ?_, h2⟩
    have hm : (parts.map fun (p : Nat × Operand) => (p.1, a.eval p.2)) = (parts.toList.map fun p => (p.1, a.eval p.2)).toArray := by
      apply Array.ext'; simp
    simp only [execOp, hm]
    rw [Sem.run_bind, h1]
    simp
  · rename_i T x lo hi mx
    simp only [Option.bind_eq_some_iff] at he
    obtain ⟨p, hx, he⟩ := he
    have opt : ∀ o : Option Operand, DO w (held A μ) μ (optO ρ o) (o.map a.eval) := by
      intro o
      cases o with
      | none => simp [DO, optO]
      | some y =>
        simp only [optO, Option.map_some]
        cases hy : ρ y with
        | none => simp [DO]
        | some t => simpa [DO] using hρ _ _ hy
    obtain ⟨u, h1, h2⟩ := slice_sound (w := w) (H := held A μ) (μ := μ) (hρ _ _ hx) (opt lo) (opt hi) (opt mx) he hp
    exact ⟨u, by simp [execOp, h1], h2⟩
  · rename_i f first caps
    split at he
    rotate_left
    · cases he
    rename_i hf
    simp only [Option.map_eq_some_iff, Prod.mk.injEq] at he
    obtain ⟨cs, hcs, rfl, rfl⟩ := he
    have hD := args_sound (a := a) hρ hcs
    have hf' : first = #[] := by simpa using hf
    refine ⟨.func (.func f) #[] (caps.toList.map a.eval).toArray, ?_, .clo _ hD.1 hD.2⟩
    have hm : caps.map a.eval = (caps.toList.map a.eval).toArray := by apply Array.ext'; simp
    simp only [execOp, Instr.makeFunc, hf', hm]
    simp
  · rename_i c
    unfold evCallB at he
    split at he
    · rename_i b hb
      simp only [Option.bind_eq_some_iff] at he
      obtain ⟨xs, hxs, he⟩ := he
      have hD := args_sound (a := a) hρ hxs
      obtain ⟨u, h1, h2⟩ := builtin_sound (ts := c.argTypes.toList) (ty := type) (cs := c.args.map fun | .const _ => true | _ => false) hO hsub hD he
      refine ⟨u, ?_, h2⟩
      have hm : c.args.map a.eval = (c.args.toList.map a.eval).toArray := by apply Array.ext'; simp
      simp only [execOp, resolve, hb, Sem.run_bind, Sem.run_pure, Result.andThen_ok, invoke, hm]
      rw [show c.argTypes.toList.toArray = c.argTypes from by simp] at h1
      exact h1
    · cases he
  · cases he
end

end Go.Proofs.YthfkpmobmnfgcaaDoor.V

/-
  Symbolic states of a call: temporaries, own blocks; one operation's step, in the order of the text. Conditions: none.
-/
namespace Go.Proofs.YthfkpmobmnfgcaaDoor.V
open Go

/-- What is known of a temporary: under a guard (the temporary that decides, and its value), or without one. -/
structure Entry where
  slot : Nat
  guard : Option (Nat × Bool)
  sv : SV

structure St where
  ρ : List Entry
  own : List Blk

def look (t : Nat) : List Entry → Option Entry
  | [] => none
  | e :: r => if e.slot = t then some e else look t r

/-- What is known of an operand by an operation under the guard g. -/
def opd (E : Env) (ρ : List Entry) (g : Option (Nat × Bool)) : Operand → Option SV
  | .tmp t => match look t ρ with
    | some e => match e.guard with
      | none => some e.sv
      | some q => if g = some q then some e.sv else none
    | none => none
  | .const v => some (ofVal v)
  | .global n => E.glob n
  | .func f => some (.clo f [])

/-- A value is written to a temporary: what hung on its elder value is forgotten. -/
def forget (d : Nat) (e : Entry) : Entry := match e.guard with
  | some (g, _) => if g = d then { e with guard := none, sv := .any } else e
  | none => e
def putE (d : Option Nat) (g : Option (Nat × Bool)) (s : SV) (ρ : List Entry) : List Entry := match d with
  | none => ρ
  | some d => ⟨d, g, s⟩ :: (if ρ.any (fun e => match e.guard with | some (q, _) => q == d | none => false) then ρ.map (forget d) else ρ)

def killE (k : Nat) (ρ : List Entry) : List Entry := ρ.map fun e => { e with sv := e.sv.kill2 k }

def EntryOK (w : World) (H : Nat → Prop) (μ : Mu) (tmps : Array Value) (e : Entry) : Prop :=
  match e.guard with
  | none => D w H μ e.sv (tmps.getD e.slot undef)
  | some (g, b) => (tmps.getD g undef = .bool b → D w H μ e.sv (tmps.getD e.slot undef)) ∧ (tmps.getD g undef ≠ .bool b → tmps.getD e.slot undef = undef)

def EnvD (w : World) (H : Nat → Prop) (μ : Mu) (tmps : Array Value) (ρ : List Entry) : Prop := ∀ t e, look t ρ = some e → EntryOK w H μ tmps e

structure SD (E : Env) (B0 : Nat) (X A : Nat → Prop) (w0 : World) (nt : Nat) (st : St) (a : Act) (w : World) (μ : Mu) : Prop where
  own : Own B0 X A w μ st.own
  fr : Fr B0 X w0 w
  base : B0 ≤ w.heap.size
  glo : ∀ g s, E.glob g = some s → s.pure = true ∧ D w (held A μ) μ s (.pointer (some ⟨g, 0, none⟩))
  dfr : a.defers = []
  size : a.tmps.size = nt
  env : EnvD w (held A μ) μ a.tmps st.ρ
  fresh : ∀ k, st.own.length ≤ k → μ k = none
  anc : ∀ x, E.anc = some x → μ 0 = some x

theorem look_slot {t : Nat} {ρ : List Entry} {e : Entry} (h : look t ρ = some e) : e.slot = t := by
  induction ρ with
  | nil => simp [look] at h
  | cons x r ih =>
    simp only [look] at h
    split at h
    · cases h; assumption
    · exact ih h

theorem look_map {t : Nat} {f : Entry → Entry} (hf : ∀ e, (f e).slot = e.slot) (ρ : List Entry) : look t (ρ.map f) = (look t ρ).map f := by
  induction ρ with
  | nil => rfl
  | cons x r ih =>
    simp only [List.map_cons, look, hf]
    split <;> simp [ih]

theorem forget_slot (d : Nat) (e : Entry) : (forget d e).slot = e.slot := by
  unfold forget; split <;> (try split) <;> rfl

section
variable {w w' : World} {H H' : Nat → Prop} {μ μ' : Mu} {tmps : Array Value} {ρ : List Entry}

theorem EnvD.keep (hk : Keeps w w' H H' μ μ') (h : EnvD w H μ tmps ρ) : EnvD w' H' μ' tmps ρ := by
  intro t e he
  have := h t e he
  unfold EntryOK at this ⊢
  split at this
  · exact this.keep hk
  · exact ⟨fun hg => (this.1 hg).keep hk, this.2⟩

theorem EnvD.change {k : Nat} (hk : Keeps' k w w' H H' μ μ') (h : EnvD w H μ tmps ρ) : EnvD w' H' μ' tmps (killE k ρ) := by
  intro t e he
  rw [killE, look_map (f := fun (e : Entry) => { e with sv := e.sv.kill2 k }) (fun _ => rfl), Option.map_eq_some_iff] at he
  obtain ⟨e0, he0, rfl⟩ := he
  have := h t e0 he0
  unfold EntryOK at this ⊢
  simp only
  split at this
  · exact kill2_change hk this
  · exact ⟨fun hg => kill2_change hk (this.1 hg), this.2⟩

theorem getD_set {tmps : Array Value} {d t : Nat} {v : Value} (hd : d < tmps.size) : (tmps.setIfInBounds d v).getD t undef = if t = d then v else tmps.getD t undef := by
  by_cases e : t = d
  · subst e; simp [hd]
  · simp [e, Array.getElem?_setIfInBounds_ne (Ne.symm e)]

theorem EnvD.put (h : EnvD w H μ tmps ρ) {d : Nat} (hd : d < tmps.size) {g : Option (Nat × Bool)} {s : SV} {v : Value} (_ : ∀ q b, g = some (q, b) → q ≠ d)
    (hv : EntryOK w H μ (tmps.setIfInBounds d v) ⟨d, g, s⟩) : EnvD w H μ (tmps.setIfInBounds d v) (putE (some d) g s ρ) := by
  have old : ∀ t e, t ≠ d → look t ρ = some e → EntryOK w H μ (tmps.setIfInBounds d v) (forget d e) := by
    intro t e hne he
    have hs := look_slot he
    have := h t e he
    unfold forget
    split
    · rename_i q b hq
      split
      · unfold EntryOK; exact .any
      · rename_i hqd
        unfold EntryOK at this ⊢
        rw [hq] at this ⊢
        simp only at this ⊢
        rw [getD_set hd, getD_set hd, if_neg hqd, if_neg (by rw [hs]; exact hne)]
        exact this
    · rename_i hq
      unfold EntryOK at this ⊢
      rw [hq] at this ⊢
      simp only at this ⊢
      rw [getD_set hd, if_neg (by rw [hs]; exact hne)]
      exact this
  intro t e he
  simp only [putE, look] at he
  split at he
  · cases he; exact hv
  · rename_i hne
    split at he
    · rw [look_map (forget_slot d), Option.map_eq_some_iff] at he
      obtain ⟨e0, he0, rfl⟩ := he
      exact old t e0 (Ne.symm hne) he0
    · rename_i hno
      have := old t e (Ne.symm hne) he
      have hf : forget d e = e := by
        unfold forget
        split
        · rename_i q b hq
          split
          · rename_i hqd
            exfalso
            apply hno
            rw [List.any_eq_true]
            have hmem : e ∈ ρ := by
              clear hno old this h
              induction ρ with
              | nil => simp [look] at he
              | cons x r ih =>
                simp only [look] at he
                split at he
                · cases he; simp
                · exact List.mem_cons_of_mem _ (ih he)
            exact ⟨e, hmem, by rw [hq]; simpa using hqd⟩
          · rfl
        · rfl
      rwa [hf] at this

theorem opd_sound {E : Env} {a : Act} {g : Option (Nat × Bool)} (hglo : ∀ n s, E.glob n = some s → D w H μ s (.pointer (some ⟨n, 0, none⟩))) (henv : EnvD w H μ a.tmps ρ)
    (hg : ∀ q b, g = some (q, b) → a.tmps.getD q undef = .bool b) : ∀ (x : Operand) (s : SV), opd E ρ g x = some s → D w H μ s (a.eval x) := by
  intro x s h
  cases x with
  | tmp t =>
    simp only [opd] at h
    split at h
    · rename_i e he
      have hs := look_slot he
      have hok := henv t e he
      unfold EntryOK at hok
      split at h
      · rename_i hn
        cases h
        rw [hn] at hok
        simp only at hok
        rw [hs] at hok
        exact hok
      · rename_i q hq
        split at h
        · rename_i hgq
          cases h
          rw [hq] at hok
          obtain ⟨q1, q2⟩ := q
          simp only at hok
          have := hok.1 (hg q1 q2 hgq)
          rw [hs] at this
          exact this
        · cases h
    · cases h
  | const v => simp only [opd, Option.some.injEq] at h; subst h; exact D_ofVal v
  | global n => exact hglo n s h
  | func f => simp only [opd, Option.some.injEq] at h; subst h; exact .clo [] rfl (fun i s v h _ => by simp at h)
end

end Go.Proofs.YthfkpmobmnfgcaaDoor.V

/-
  Calls by contracts whose result is a function of the arguments; one operation as a step between symbolic states. Conditions: none.
-/
namespace Go.Proofs.YthfkpmobmnfgcaaDoor.V
open Go

/-- An argument without own pointers: an own row is handed over as what it reads as. -/
def SV.ro (own : List Blk) : SV → Option SV
  | .osl k => match own[k]? with
    | some (.row _ sz n f c) => some (.sl sz n f c)
    | _ => none
  | .own _ _ | .oel _ _ _ _ | .agg _ | .tup _ | .any => none
  | .clo f cs => if cs.isEmpty then some (.clo f []) else none
  | s => some s
def SV.roA (own : List Blk) : SV → Option SV
  | .agg cs => (cs.mapM (SV.ro own)).map .agg
  | s => s.ro own

def SV.isOsl : SV → Bool
  | .osl _ => true
  | _ => false
def SV.hasOsl : SV → Bool
  | .agg cs => cs.any SV.isOsl
  | s => s.isOsl

/-- A value that lies in no memory. -/
def SV.flat0 : SV → Bool
  | .int _ _ | .bool _ | .con _ => true
  | .clo _ cs => cs.isEmpty
  | _ => false
def SV.flat1 : SV → Bool
  | .agg cs => cs.all SV.flat0
  | s => s.flat0
def SV.flat2 : SV → Bool
  | .tup vs => vs.all SV.flat1
  | s => s.flat1

section
variable {w : World} {H H' : Nat → Prop} {μ μ' : Mu}

theorem flat0_D {s : SV} {v : Value} {w' : World} (hf : s.flat0 = true) (h : D w H μ s v) : D w' H' μ' s v := by
  cases h <;> simp [SV.flat0] at hf
  · exact .int
  · exact .bool
  · exact .con
  · rename_i vs hl hd
    subst hf
    exact .clo vs hl (fun i s v h => by simp at h)
theorem flat1_D {s : SV} {v : Value} {w' : World} (hf : s.flat1 = true) (h : D w H μ s v) : D w' H' μ' s v := by
  unfold SV.flat1 at hf
  split at hf
  · cases h with
    | agg vs hl hd => exact .agg vs hl (fun i s v hs hv => flat0_D (List.all_eq_true.1 hf s (List.mem_of_getElem? hs)) (hd i s v hs hv))
  · exact flat0_D hf h
theorem flat2_D {s : SV} {v : Value} {w' : World} (hf : s.flat2 = true) (h : D w H μ s v) : D w' H' μ' s v := by
  unfold SV.flat2 at hf
  split at hf
  · cases h with
    | tup vs hl hd => exact .tup vs hl (fun i s v hs hv => flat1_D (List.all_eq_true.1 hf s (List.mem_of_getElem? hs)) (hd i s v hs hv))
  · exact flat1_D hf h

/-- Fewer blocks are held: what names no own block still reads so. -/
theorem pure_mono (hH : ∀ b, H' b → H b) {s : SV} {v : Value} (h : D w H μ s v) : s.pure = true → D w H' μ' s v := by
  induction h with
  | int => exact fun _ => .int
  | bool => exact fun _ => .bool
  | con => exact fun _ => .con
  | own h => intro hp; simp [SV.pure] at hp
  | osl h => intro hp; simp [SV.pure] at hp
  | oel h => intro hp; simp [SV.pure] at hp
  | sl a b o m g hm hx hc hrow hl hd ih =>
    exact fun _ => .sl a b o m g hm hx hc (fun hn => by
      obtain ⟨e, hb, hr⟩ := hrow hn
      exact ⟨e, fun hh => hb (hH _ hh), hr⟩) hl (fun i j s hi hs => ih i j s hi hs (List.all_eq_true.1 (hl i hi).2 s (List.mem_of_getElem? hs)))
  | rel b o g hi hb hrow hl hd ih =>
    exact fun _ => .rel b o g hi (fun hh => hb (hH _ hh)) hrow hl (fun i j s hi hs => ih i j s hi hs (List.all_eq_true.1 (hl i hi).2 s (List.mem_of_getElem? hs)))
  | agg vs hl hd ih => intro hp; simp [SV.pure] at hp
  | tup vs hl hd ih => intro hp; simp [SV.pure] at hp
  | clo vs hl hd ih =>
    intro hp
    simp [SV.pure] at hp
    subst hp
    exact .clo vs hl (fun i s v h => by simp at h)
  | any => exact fun _ => .any

end

def Nobody : Mu := fun _ => none

/-- A contract: the result is a function of the arguments, under a premise; memory that was there stays as it was. -/
def PSound (P : Program) (glob : Nat → Option SV) (f : FuncId) (c : List SV → Option (Prop × SV)) : Prop :=
  (∃ fn, P.funcs[f]? = some fn ∧ (fn.name == "runtime.NumGoroutine") = false ∧ fn.body.isNone = false) ∧
  ∀ (A : Nat → Prop) (w : World) (args : List SV) (vals : List Value) (pre : Prop) (s : SV), (∀ b, A b → b < w.heap.size) → (∀ g t, glob g = some t → t.pure = true ∧ D w A Nobody t (.pointer (some ⟨g, 0, none⟩))) →
    DL w A Nobody args vals → c args = some (pre, s) → pre →
    Calls P f vals.toArray w fun e w' => ∃ v, e = .returned v ∧ D w' A Nobody s v ∧ Fr w.heap.size (fun _ => False) w w'

section
variable {E : Env} {w : World} {μ : Mu} {B0 : Nat} {X A : Nat → Prop} {own ownN : List Blk}

theorem ro_sound (hO : Own B0 X A w μ ownN) (hsub : ∀ (k : Nat) (bl : Blk), own[k]? = some bl → ownN[k]? = some bl) {A' : Nat → Prop} (hA : ∀ b, A' b → held A μ b) {s t : SV} {v : Value} (hd : D w (held A μ) μ s v) (hr : s.ro own = some t) (hosl : s.isOsl = true → ∀ b, A' b → A b) : D w A' Nobody t v := by
  have lift : s.pure = true → t = s → D w A' Nobody t v := fun hp e => by
    subst e
    exact pure_mono hA hd hp
  cases hd with
  | osl h =>
    rename_i k0 n0 m0 a0
    simp only [SV.ro] at hr
    split at hr
    · rename_i T sz n f c hk
      cases hr
      obtain ⟨bl, e, hok⟩ := hO.blk _ _ h
      rw [hsub _ _ hk] at e
      cases e
      obtain ⟨a, m, e1, hn, hm, hc, hl, hrest⟩ := hok
      cases e1
      rcases hrest with ⟨rfl, rfl⟩ | ⟨b, o, vs, rfl, hh, ho, h1, hD⟩
      · exact .sl none 0 0 0 (fun _ _ => undef) hn hm hc (fun h => absurd h (by omega)) hl (fun i j s hi => absurd hi (by omega))
      · have hnb : ¬ A' b := fun hb => (hO.rng _ _ b h rfl).2.1 (hosl rfl b hb)
        have hin : ∀ i j, i < n0 → j < sz → o + i * sz + j < vs.length := fun i j hi hj => by
          have := idx_lt hi hj
          have : n0 * sz ≤ m0 * sz := Nat.mul_le_mul_right _ hn
          omega
        refine .sl _ b o m0 (fun i j => vs.getD (o + i * sz + j) undef) hn hm hc (fun _ => ⟨rfl, hnb, lt_of_row hh, fun i j hi hj => ?_⟩) hl (fun i j s hi hs => ?_)
        · have := hin i j hi hj
          rw [cell_row hh, List.getElem?_eq_getElem this]
          simp only [List.getD_eq_getElem?_getD, List.getElem?_eq_getElem this, Option.getD_some]
          exact ⟨trivial, h1 _ (List.getElem_mem this)⟩
        · have hj : j < sz := by rw [← (hl i hi).1]; exact (List.getElem?_eq_some_iff.1 hs).1
          have := hin i j hi hj
          simp only [List.getD_eq_getElem?_getD, List.getElem?_eq_getElem this, Option.getD_some]
          exact pure_mono hA (hD i j s _ hi hs (List.getElem?_eq_getElem this)) (List.all_eq_true.1 (hl i hi).2 s (List.mem_of_getElem? hs))
    · cases hr
  | int => exact lift rfl (by simpa [SV.ro] using hr.symm)
  | bool => exact lift rfl (by simpa [SV.ro] using hr.symm)
  | con => exact lift rfl (by simpa [SV.ro] using hr.symm)
  | sl a b o m g hm hx hc hrow hl hd => exact lift rfl (by simpa [SV.ro] using hr.symm)
  | rel b o g hi hb hrow hl hd => exact lift rfl (by simpa [SV.ro] using hr.symm)
  | clo vs hl hd =>
    simp only [SV.ro] at hr
    split at hr
    · rename_i hc
      cases hr
      have hc' := List.isEmpty_iff.1 hc
      subst hc'
      exact .clo vs hl (fun i s v h => by simp at h)
    · cases hr
  | _ => simp [SV.ro] at hr

theorem roA_sound (hO : Own B0 X A w μ ownN) (hsub : ∀ (k : Nat) (bl : Blk), own[k]? = some bl → ownN[k]? = some bl) {A' : Nat → Prop} (hA : ∀ b, A' b → held A μ b) {s t : SV} {v : Value} (hd : D w (held A μ) μ s v) (hr : s.roA own = some t) (hosl : s.hasOsl = true → ∀ b, A' b → A b) : D w A' Nobody t v := by
  unfold SV.roA at hr
  split at hr
  · rename_i cs
    simp only [Option.map_eq_some_iff] at hr
    obtain ⟨ts, hts, rfl⟩ := hr
    obtain ⟨l1, l2⟩ := mapM_get hts
    cases hd with
    | agg vs hl hd =>
      refine .agg vs (by rw [hl, l1]) (fun i t v ht hv => ?_)
      have hlt : i < cs.length := by rw [← l1]; exact (List.getElem?_eq_some_iff.1 ht).1
      obtain ⟨y, hy, e⟩ := l2 i _ (List.getElem?_eq_getElem hlt)
      rw [ht] at hy
      cases hy
      exact ro_sound hO hsub hA (hd i _ v (List.getElem?_eq_getElem hlt) hv) e (fun h => hosl (by simp only [SV.hasOsl, List.any_eq_true]; exact ⟨_, List.getElem_mem hlt, h⟩))
  · rename_i hna
    exact ro_sound hO hsub hA hd hr (fun h => hosl (by
      unfold SV.hasOsl
      split
      · rename_i cs; exact absurd rfl (hna cs)
      · exact h))

/-- A call by its contract. -/
def evCall (E : Env) (own : List Blk) (ρ : Operand → Option SV) (c : Call) : Option (Prop × SV) :=
  match c.callee with
  | .value f => match ρ f with
    | some (.clo fid caps) => (c.args.toList.mapM ρ).bind fun xs => ((xs ++ caps).mapM (SV.roA own)).bind fun ys => (E.C fid).bind fun k => (k ys).bind fun r =>
        if !((xs ++ caps).any SV.hasOsl) || r.2.flat2 then some r else none
    | _ => none
  | _ => none

/-- A call that rewrites the row of its first argument. -/
def Solo (v : Value) : Mu := fun k => if k = 0 then some v else none

def ESound (P : Program) (glob : Nat → Option SV) (f : FuncId) (e : EffK) : Prop :=
  (∃ fn, P.funcs[f]? = some fn ∧ (fn.name == "runtime.NumGoroutine") = false ∧ fn.body.isNone = false) ∧
  ∀ (A : Nat → Prop) (w : World) (v : Value) (T : TypeId) (sz n : Nat) (g : Nat → List SV) (c : Option Nat) (rest : List SV) (vals : List Value) (pre : Prop) (g' : Nat → List SV) (r : Bool),
    (∀ b, A b → b < w.heap.size) → (∀ b, blkOf v = some b → b < w.heap.size ∧ ¬ A b) → (∀ q t, glob q = some t → t.pure = true ∧ D w (held A (Solo v)) Nobody t (.pointer (some ⟨q, 0, none⟩))) →
    BlkOK w (held A (Solo v)) (Solo v) v (.row T sz n g c) → DL w (held A (Solo v)) Nobody rest vals → e T sz n g rest = some (pre, g', r) → pre →
    Calls P f (v :: vals).toArray w fun x w' => ∃ res, x = .returned res ∧ (r = true → res = v) ∧ (r = false → res = .tuple #[]) ∧ BlkOK w' (held A (Solo v)) (Solo v) v (.row T sz n g' c) ∧ Fr w.heap.size (fun b => blkOf v = some b) w w'

def XSound (E : Env) : Prop := ∀ f e, E.X f = some e → ESound E.P E.glob f e

def CSound (E : Env) : Prop := (∀ f c, E.C f = some c → PSound E.P E.glob f c) ∧ XSound E

theorem DL_app {H : Nat → Prop} {xs ys : List SV} {us vs : List Value} (h : DL w H μ xs us) (k : DL w H μ ys vs) : DL w H μ (xs ++ ys) (us ++ vs) := by
  refine ⟨by simp [h.1, k.1], fun i s v hs hv => ?_⟩
  by_cases hi : i < xs.length
  · rw [List.getElem?_append_left hi] at hs
    rw [List.getElem?_append_left (by rw [h.1]; exact hi)] at hv
    exact h.2 i s v hs hv
  · rw [List.getElem?_append_right (by omega)] at hs
    rw [List.getElem?_append_right (by rw [h.1]; omega), h.1] at hv
    exact k.2 _ s v hs hv

theorem call_sound (hC : CSound E) (hO : Own B0 X A w μ ownN) (hsub : ∀ (k : Nat) (bl : Blk), own[k]? = some bl → ownN[k]? = some bl) (hglo : ∀ g s, E.glob g = some s → s.pure = true ∧ D w (held A μ) μ s (.pointer (some ⟨g, 0, none⟩))) {a : Act} {ρ : Operand → Option SV}
    (hρ : ∀ (x : Operand) (s : SV), ρ x = some s → D w (held A μ) μ s (a.eval x)) {o : Oper} {c : Call} (ho : o.op = .call c) {pre : Prop} {s : SV} (he : evCall E own ρ c = some (pre, s)) (hp : pre) :
    ∃ f vals, (execOp a.eval o).run E.P w = .ok (.enter f vals) w ∧ Calls E.P f vals w fun e w' => ∃ v, e = .returned v ∧ D w' (held A μ) μ s v ∧ Fr w.heap.size (fun _ => False) w w' := by
  unfold evCall at he
  split at he
  rotate_left
  · cases he
  rename_i f hf
  split at he
  rotate_left
  · cases he
  rename_i fid caps hρf
  simp only [Option.bind_eq_some_iff] at he
  obtain ⟨xs, hxs, ys, hys, k, hk, ⟨p, t⟩, hr, he⟩ := he
  split at he
  rotate_left
  · cases he
  rename_i hcond
  simp only [Option.some.injEq, Prod.mk.injEq] at he
  obtain ⟨rfl, rfl⟩ := he
  have hfd := hρ _ _ hρf
  generalize hvf : a.eval f = vf at hfd
  obtain ⟨⟨fn, h1, h2, h3⟩, hS⟩ := hC.1 fid k hk
  cases hfd with
  | clo cvs hcl hcd =>
    have hD := DL_app (args_sound (a := a) hρ hxs) (⟨hcl, hcd⟩ : DL w (held A μ) μ caps cvs)
    refine ⟨fid, ((c.args.toList.map a.eval) ++ cvs).toArray, ?_, ?_⟩
    · have hm : c.args.map a.eval = (c.args.toList.map a.eval).toArray := by apply Array.ext'; simp
      simp only [execOp, ho, resolve, hf, hvf, Deferred.ofValue, hm, Sem.run_bind, Sem.run_pure, Result.andThen_ok, invoke, callFunc, run_program, h1, h2, Bool.false_eq_true, if_false, h3]
      simp
    · obtain ⟨l1, l2⟩ := mapM_get hys
      have conv : ∀ A' : Nat → Prop, (∀ b, A' b → held A μ b) → (((xs ++ caps).any SV.hasOsl) = true → ∀ b, A' b → A b) → DL w A' Nobody ys ((c.args.toList.map a.eval) ++ cvs) := by
        intro A' hA hosl
        refine ⟨by rw [hD.1, l1], fun i s v hs hv => ?_⟩
        have hlt : i < (xs ++ caps).length := by rw [← l1]; exact (List.getElem?_eq_some_iff.1 hs).1
        obtain ⟨y, hy, e⟩ := l2 i _ (List.getElem?_eq_getElem hlt)
        rw [hs] at hy
        cases hy
        exact roA_sound hO hsub hA (hD.2 i _ v (List.getElem?_eq_getElem hlt) hv) e (fun h => hosl (by simp only [List.any_eq_true]; exact ⟨_, List.getElem_mem hlt, h⟩))
      have hbd : ∀ b, held A μ b → b < w.heap.size := fun b hb => by
        rcases hb with hb | ⟨k, x, hk, hx⟩
        · exact hO.bnd b hb
        · exact (hO.rng k x b hk hx).1
      cases hos : (xs ++ caps).any SV.hasOsl with
      | false =>
        refine (hS (held A μ) w ys _ p t hbd (fun g q hg => ⟨(hglo g q hg).1, pure_mono (fun _ h => h) (hglo g q hg).2 (hglo g q hg).1⟩) (conv _ (fun _ h => h) (fun h => by rw [hos] at h; cases h)) hr hp).mono ?_
        rintro e w' ⟨v, rfl, hd, hfr⟩
        exact ⟨v, rfl, hd.keep ⟨Nat.le_refl _, fun _ _ _ => rfl, fun _ _ h => h, fun j x hx => by cases hx⟩, hfr⟩
      | true =>
        rw [hos] at hcond
        have hfl : t.flat2 = true := by simpa using hcond
        refine (hS A w ys _ p t hO.bnd (fun g q hg => ⟨(hglo g q hg).1, pure_mono (fun _ h => .inl h) (hglo g q hg).2 (hglo g q hg).1⟩) (conv A (fun _ h => .inl h) (fun _ _ h => h)) hr hp).mono ?_
        rintro e w' ⟨v, rfl, hd, hfr⟩
        exact ⟨v, rfl, flat2_D hfl hd, hfr⟩

/-- Behind a call that left memory alone all that was known is known. -/
theorem Fr.keeps {w' : World} (h : Fr w.heap.size (fun _ => False) w w') {H : Nat → Prop} : Keeps w w' H H μ μ :=
  ⟨h.size, fun b hb _ => h.block b hb (fun h => h), fun _ _ h => h, fun _ _ h => h⟩
theorem Own.calls {w' : World} (hO : Own B0 X A w μ own) (h : Fr w.heap.size (fun _ => False) w w') : Own B0 X A w' μ own :=
  ⟨fun k x hx => by
    obtain ⟨bl, e, hb⟩ := hO.blk k x hx
    exact ⟨bl, e, hb.keep h.keeps (fun b hb => h.block b (hO.rng k x b hx hb).1 (fun h => h))⟩, hO.inj,
    fun k x b hk hb => by obtain ⟨r1, r2⟩ := hO.rng k x b hk hb; exact ⟨Nat.lt_of_lt_of_le r1 h.size, r2⟩, fun b hb => Nat.lt_of_lt_of_le (hO.bnd b hb) h.size⟩
end

end Go.Proofs.YthfkpmobmnfgcaaDoor.V

/-
  One operation as a step between symbolic states; regions in the order of the text. Conditions: none.
-/
namespace Go.Proofs.YthfkpmobmnfgcaaDoor.V
open Go

def orElse (x y : Option SV) : Option SV := match x with
  | some s => some s
  | none => y

def pickSV (b : Bool) (x y : Operand) (sx sy : SV) : Option SV := match sx, sy with
  | .bool s, .bool t => match x, y with
    | .const (.bool true), _ => some (.bool (b || t))
    | _, .const (.bool false) => some (.bool (b && s))
    | _, _ => some (.bool (bif b then s else t))
  | .int k n, .int k' m => if k = k' then some (.int k (bif b then n else m)) else none
  | _, _ => none

def evPick (E : Env) (ρ : List Entry) (g : Option (Nat × Bool)) (c x y : Operand) : Option (Prop × SV) := match c with
  | .tmp ct => match opd E ρ g (.tmp ct) with
    | some (.bool b) => (orElse (opd E ρ g x) (opd E ρ (some (ct, true)) x)).bind fun sx => (orElse (opd E ρ g y) (opd E ρ (some (ct, false)) y)).bind fun sy => (pickSV b x y sx sy).map fun s => (True, s)
    | _ => none
  | _ => none

/-- What an operation does that may stand under a guard: a value, a choice, a call by contract. -/
def evSoft (E : Env) (st : St) (g : Option (Nat × Bool)) (op : Op) : Option (Prop × SV) := match op with
  | .pick c x y => evPick E st.ρ g c x y
  | .call c => match c.callee with
    | .value _ => evCall E st.own (opd E st.ρ g) c
    | _ => evVal E st.own (opd E st.ρ g) op
  | op => evVal E st.own (opd E st.ρ g) op

def guardCond (ρ : List Entry) : Nat → Nat → Bool → Option Prop
  | 0, _, _ => none
  | n + 1, g, p => match look g ρ with
    | some e => match e.sv with
      | .bool b => match e.guard with
        | none => some (b = p)
        | some (g', p') => (guardCond ρ n g' p').map fun c => c ∧ b = p
      | _ => none
    | none => none

def dstOK (nt : Nat) (d : Option Nat) : Bool := match d with
  | some d => decide (d < nt)
  | none => true

def stepO (E : Env) (nt : Nat) (ops : Array Oper) (st : St) (o : Oper) : Option (Prop × St) :=
  if !dstOK nt o.dst then none else
  match o.guard with
  | some (j, p) => match o.dst, (ops[j]?).bind (·.dst) with
    | some d, some g => if g < nt ∧ g ≠ d then (guardCond st.ρ 5 g p).bind fun c => (evSoft E st (some (g, p)) o.op).map fun r => (c → r.1, { st with ρ := putE (some d) (some (g, p)) r.2 st.ρ }) else none
    | _, _ => none
  | none => match o.op with
    | .store T p x => (opd E st.ρ none p).bind fun sp => (opd E st.ρ none x).bind fun sx => (evStore E.P st.own T sp sx).bind fun r => if o.dst = none then some (r.1, { st with own := r.2 }) else none
    | .alloc _ | .box _ _ | .buildSlice _ _ _ | .makeSlice _ _ _ => (evNew E.P st.own (opd E st.ρ none) o.op).map fun r => (r.1, { ρ := putE o.dst none r.2.1 st.ρ, own := st.own ++ [r.2.2] })
    | .call { callee := .builtin .append, args := ⟨[x, y]⟩, argTypes := ⟨[T, U]⟩ } => if T = U then (opd E st.ρ none x).bind fun sx => (opd E st.ρ none y).bind fun sy => (evAppend E.P st.own T sx sy).bind fun r =>
        if !r.2.2.2 && E.anc.isSome && r.2.1 == 0 then none else some (r.1, { ρ := putE o.dst none (.osl r.2.1) (if r.2.2.2 then st.ρ else killE r.2.1 st.ρ), own := r.2.2.1 }) else none
    | op => (evSoft E st none op).map fun r => (r.1, { st with ρ := putE o.dst none r.2 st.ρ })

section
variable {E : Env} {B0 : Nat} {X A : Nat → Prop} {w0 : World} {nt : Nat} {st : St} {a : Act} {w : World} {μ : Mu}

theorem SD.opds (h : SD E B0 X A w0 nt st a w μ) {g : Option (Nat × Bool)} (hg : ∀ q b, g = some (q, b) → a.tmps.getD q undef = .bool b) : ∀ (x : Operand) (s : SV), opd E st.ρ g x = some s → D w (held A μ) μ s (a.eval x) :=
  opd_sound (fun n s hn => (h.glo n s hn).2) h.env hg

theorem pickSV_sound {H : Nat → Prop} {b : Bool} {x y : Operand} {sx sy s : SV} {u v : Value} (hx : b = true → D w H μ sx u) (hy : b = false → D w H μ sy v) (hcx : ∀ z, x = .const z → u = z) (hcy : ∀ z, y = .const z → v = z) (he : pickSV b x y sx sy = some s) :
    D w H μ s (if b then u else v) := by
  unfold pickSV at he
  split at he
  · rename_i s1 t1
    split at he
    · cases he
      have := hcx _ rfl
      subst this
      cases b
      · have := hy rfl; cases this; exact .bool
      · exact .bool
    · cases he
      have := hcy _ rfl
      subst this
      cases b
      · exact .bool
      · have := hx rfl; cases this; exact .bool
    · cases he
      cases b
      · have := hy rfl; cases this; exact .bool
      · have := hx rfl; cases this; exact .bool
  · split at he
    · rename_i hk
      cases he
      subst hk
      cases b
      · have := hy rfl; cases this; exact .int
      · have := hx rfl; cases this; exact .int
    · cases he
  · cases he

theorem eval_const {z : Value} : a.eval (.const z) = z := rfl

theorem orElse_or {x y : Option SV} {s : SV} (h : orElse x y = some s) : x = some s ∨ y = some s := by
  unfold orElse at h; split at h <;> simp_all

/-- What a soft operation does: a value, or a call that leaves memory alone. -/
theorem soft_sound' (hE : EnvOK E) (hC : CSound E) {ρ : List Entry} {own ownN : List Blk} (hO : Own B0 X A w μ ownN) (hsub : ∀ (k : Nat) (bl : Blk), own[k]? = some bl → ownN[k]? = some bl) (hglo : ∀ g s, E.glob g = some s → s.pure = true ∧ D w (held A μ) μ s (.pointer (some ⟨g, 0, none⟩)))
    (henv : EnvD w (held A μ) μ a.tmps ρ) {g : Option (Nat × Bool)} (hg : ∀ q b, g = some (q, b) → a.tmps.getD q undef = .bool b) {o : Oper} {pre : Prop} {s : SV} (he : evSoft E ⟨ρ, own⟩ g o.op = some (pre, s)) (hp : pre)
    {K : Act → World → Prop} {Q : Exit → Act → World → Prop} (hK : ∀ v w', D w' (held A μ) μ s v → Fr w.heap.size (fun _ => False) w w' → K (a.put o.dst v) w') : o.wp E.P a w K Q := by
  have opds : ∀ {g : Option (Nat × Bool)}, (∀ q b, g = some (q, b) → a.tmps.getD q undef = .bool b) → ∀ (x : Operand) (s : SV), opd E ρ g x = some s → D w (held A μ) μ s (a.eval x) := fun hg => opd_sound (fun n s hn => (hglo n s hn).2) henv hg
  have hρ := opds hg
  have value : ∀ v, (execOp a.eval o).run E.P w = .ok (.value v) w → D w (held A μ) μ s v → o.wp E.P a w K Q := by
    intro v hr hd
    unfold Oper.wp
    rw [hr]
    exact hK v w hd ⟨rfl, rfl, rfl, Nat.le_refl _, Nat.le_refl _, fun _ _ _ => rfl⟩
  have val : evVal E own (opd E ρ g) o.op = some (pre, s) → o.wp E.P a w K Q := by
    intro he
    obtain ⟨v, hr, hd⟩ := val_sound hE hO hsub hρ he hp
    exact value v hr hd
  unfold evSoft at he
  split at he
  · rename_i c x y hop
    unfold evPick at he
    split at he
    rotate_left
    · cases he
    rename_i ct
    split at he
    rotate_left
    · cases he
    rename_i b hb
    simp only [Option.bind_eq_some_iff, Option.map_eq_some_iff, Prod.mk.injEq] at he
    obtain ⟨sx, hx, sy, hy, s', hs, rfl, rfl⟩ := he
    have hcb := hρ _ _ hb
    generalize hv : a.eval (.tmp ct) = cv at hcb
    cases hcb
    have htm : a.tmps.getD ct undef = .bool b := hv
    have side : ∀ (p : Bool) (x : Operand) (sx : SV), orElse (opd E ρ g x) (opd E ρ (some (ct, p)) x) = some sx → b = p → D w (held A μ) μ sx (a.eval x) := by
      intro p x sx hx hbp
      rcases orElse_or hx with hx | hx
      · exact hρ x sx hx
      · exact opds (g := some (ct, p)) (fun q p' e => by cases e; rw [htm, hbp]) x sx hx
    refine value (if b then a.eval x else a.eval y) ?_ (pickSV_sound (side true x sx hx) (side false y sy hy) (fun z hz => by subst hz; rfl) (fun z hz => by subst hz; rfl) hs)
    simp only [execOp, hop, hv]
    cases b <;> simp [asBool]
  · rename_i c hop
    split at he
    · obtain ⟨f, vals, hr, hc⟩ := call_sound hC hO hsub hglo hρ (o := o) hop he hp
      unfold Oper.wp
      rw [hr]
      refine hc.mono ?_
      rintro e w' ⟨v, rfl, hd, hfr⟩
      exact hK v w' hd hfr
    · exact val he
  · rename_i op h1 h2
    exact val he

theorem soft_sound (hE : EnvOK E) (hC : CSound E) (h : SD E B0 X A w0 nt st a w μ) {g : Option (Nat × Bool)} (hg : ∀ q b, g = some (q, b) → a.tmps.getD q undef = .bool b) {o : Oper} {pre : Prop} {s : SV} (he : evSoft E st g o.op = some (pre, s)) (hp : pre)
    {K : Act → World → Prop} {Q : Exit → Act → World → Prop} (hK : ∀ v w', D w' (held A μ) μ s v → Fr w.heap.size (fun _ => False) w w' → K (a.put o.dst v) w') : o.wp E.P a w K Q :=
  soft_sound' hE hC h.own (fun _ _ h => h) h.glo h.env hg he hp hK

/-- The state behind a write of a temporary. -/
theorem SD.put (h : SD E B0 X A w0 nt st a w μ) {w' : World} {μ' : Mu} {own' : List Blk} {ρ' : List Entry} (hO : Own B0 X A w' μ' own') (hfr : Fr B0 X w w') (hglo : ∀ g s, E.glob g = some s → s.pure = true ∧ D w' (held A μ') μ' s (.pointer (some ⟨g, 0, none⟩)))
    (henv : EnvD w' (held A μ') μ' a.tmps ρ') (hfresh : ∀ k, own'.length ≤ k → μ' k = none) (hanc : ∀ x, E.anc = some x → μ' 0 = some x) {d : Option Nat} (hd : dstOK nt d = true) {s : SV} {v : Value} (hv : D w' (held A μ') μ' s v) :
    SD E B0 X A w0 nt { ρ := putE d none s ρ', own := own' } (a.put d v) w' μ' := by
  refine ⟨hO, h.fr.trans hfr, Nat.le_trans h.base hfr.size, hglo, ?_, ?_, ?_, hfresh, hanc⟩
  · cases d <;> exact h.dfr
  · cases d <;> simp [Act.put, h.size]
  · cases d with
    | none => exact henv
    | some d =>
      have hlt : d < a.tmps.size := by rw [h.size]; simpa [dstOK] using hd
      refine henv.put hlt (fun q b e => by cases e) ?_
      unfold EntryOK
      simp only
      rw [getD_set hlt, if_pos rfl]
      exact hv

theorem glo_keep {w' : World} {μ' : Mu} {H H' : Nat → Prop} (hk : Keeps w w' H H' μ μ') (h : ∀ g s, E.glob g = some s → s.pure = true ∧ D w H μ s (.pointer (some ⟨g, 0, none⟩))) : ∀ g s, E.glob g = some s → s.pure = true ∧ D w' H' μ' s (.pointer (some ⟨g, 0, none⟩)) :=
  fun g s hg => ⟨(h g s hg).1, (h g s hg).2.keep hk⟩
theorem glo_change {w' : World} {μ' : Mu} {H H' : Nat → Prop} {k : Nat} (hk : Keeps' k w w' H H' μ μ') (h : ∀ g s, E.glob g = some s → s.pure = true ∧ D w H μ s (.pointer (some ⟨g, 0, none⟩))) : ∀ g s, E.glob g = some s → s.pure = true ∧ D w' H' μ' s (.pointer (some ⟨g, 0, none⟩)) :=
  fun g s hg => ⟨(h g s hg).1, pure_change hk (h g s hg).2 (h g s hg).1⟩

theorem guardCond_sound {H : Nat → Prop} {tmps : Array Value} {ρ : List Entry} (henv : EnvD w H μ tmps ρ) : ∀ (n g : Nat) (p : Bool) (c : Prop), guardCond ρ n g p = some c → tmps.getD g undef = .bool p → c := by
  intro n
  induction n with
  | zero => intro g p c h; simp [guardCond] at h
  | succ n ih =>
    intro g p c h ht
    simp only [guardCond] at h
    split at h
    rotate_left
    · cases h
    rename_i e he
    have hs := look_slot he
    have hok := henv g e he
    unfold EntryOK at hok
    split at h
    rotate_left
    · cases h
    rename_i b hb
    split at h
    · rename_i hg
      cases h
      rw [hg, hb, hs, ht] at hok
      simp only at hok
      cases hok
      rfl
    · rename_i g' p' hg
      simp only [Option.map_eq_some_iff] at h
      obtain ⟨c', hc', rfl⟩ := h
      rw [hg, hb, hs, ht] at hok
      simp only at hok
      by_cases hq : tmps.getD g' undef = .bool p'
      · have := hok.1 hq
        cases this
        exact ⟨ih g' p' c' hc' hq, rfl⟩
      · have := hok.2 hq
        cases this

theorem wanted_iff {ops : Array Oper} {o : Oper} {j g : Nat} {p : Bool} (ho : o.guard = some (j, p)) (hg : (ops[j]?).bind (·.dst) = some g) (hlt : g < a.tmps.size) :
    Region.wanted o (yielded ops a.tmps) = true ↔ a.tmps.getD g undef = .bool p := by
  simp only [Region.wanted, ho, yielded, hg, Option.bind_some, Array.getD_eq_getD_getElem?, Array.getElem?_eq_getElem hlt, Option.getD_some]
  split
  · rename_i b hb
    rw [Option.some.injEq] at hb
    rw [hb]
    simp
  · rename_i hne
    simp only [beq_iff_eq]
    constructor
    · intro h; cases h
    · intro h; exact absurd (by rw [h]) (hne p)


theorem fill_rows (sz : Nat) : ∀ (ps : List (Nat × Value)) (b : Nat) (vs : List Value), ps.map (·.1) = List.range' b ps.length → (∀ p ∈ ps, p.2.cells.size = sz) → (b + ps.length) * sz ≤ vs.length →
    (∀ v ∈ vs, v.oneCell' = true) → (∀ p ∈ ps, ∀ v ∈ p.2.cells.toList, v.oneCell' = true) →
    ∃ us : List Value, Instr.fill (fun i => some (i * sz, sz)) vs.toArray ps = some us.toArray ∧ us.length = vs.length ∧ (∀ v ∈ us, v.oneCell' = true) ∧
      (∀ x, x < b * sz → us[x]? = vs[x]?) ∧ ∀ (i j : Nat) (p : Nat × Value), ps[i]? = some p → j < sz → us[(b + i) * sz + j]? = p.2.cells.toList[j]? := by
  intro ps
  induction ps with
  | nil => intro b vs _ _ _ h1 _; exact ⟨vs, rfl, rfl, h1, fun _ _ => rfl, fun i j p h => by simp at h⟩
  | cons q ps ih =>
    intro b vs hr hs hl h1 hp1
    obtain ⟨i0, v0⟩ := q
    simp only [List.map_cons, List.length_cons, List.range'_succ, List.cons.injEq] at hr
    obtain ⟨rfl, hr⟩ := hr
    have hs0 : v0.cells.size = sz := hs (i0, v0) (by simp)
    have hls : i0 * sz + sz ≤ vs.length := by
      have : (i0 + 1) * sz ≤ (i0 + (ps.length + 1)) * sz := Nat.mul_le_mul_right _ (by omega)
      rw [Nat.succ_mul] at this
      simp only [List.length_cons] at hl
      omega
    obtain ⟨us, e1, e2, e3, e4, e5⟩ := ih (i0 + 1) (over vs (i0 * sz) v0.cells.toList) hr (fun p hp => hs p (by simp [hp])) (by rw [over_length]; simp only [List.length_cons] at hl; rw [show i0 + 1 + ps.length = i0 + (ps.length + 1) from by omega]; exact hl)
      (over_mem _ _ _ h1 (hp1 (i0, v0) (by simp))) (fun p hp => hp1 p (by simp [hp]))
    have hov := fun x => over_get v0.cells.toList vs (i0 * sz) x (by simp [hs0]; exact hls)
    refine ⟨us, ?_, by rw [e2, over_length], e3, fun x hx => ?_, fun i j p hp hj => ?_⟩
    · simp only [Instr.fill]
      have hb : ¬ (i0 * sz + v0.cells.size > vs.toArray.size) := by rw [hs0]; simp; exact hls
      rw [if_neg (by rw [decide_eq_false hb]; simp [hs0])]
      have : (v0.cells.zipIdx.foldl (fun cs x => cs.setIfInBounds (i0 * sz + x.2) x.1) vs.toArray) = (over vs (i0 * sz) v0.cells.toList).toArray := by
        have := foldl_over v0.cells.toList 0 (i0 * sz) vs
        rw [← Array.foldl_toList]
        simpa using this
      rw [this]
      exact e1
    · rw [e4 x (by rw [Nat.succ_mul]; omega), hov, if_neg (by omega)]
    · match i with
      | 0 =>
        simp at hp
        subst hp
        rw [Nat.add_zero, e4 _ (by rw [Nat.succ_mul]; omega), hov, if_pos (by simp [hs0]; exact hj), Nat.add_sub_cancel_left]
      | i + 1 =>
        have := e5 i j p (by simpa using hp) hj
        rwa [show i0 + 1 + i = i0 + (i + 1) from by omega] at this

theorem mapM_mem {α β : Type} {f : α → Option β} {l : List α} {r : List β} (h : l.mapM f = some r) : ∀ y ∈ r, ∃ x ∈ l, f x = some y := by
  intro y hy
  obtain ⟨l1, l2⟩ := mapM_get h
  obtain ⟨i, hi, e⟩ := List.mem_iff_getElem.1 hy
  have hlt : i < l.length := by rw [← l1]; exact hi
  obtain ⟨z, hz, e'⟩ := l2 i _ (List.getElem?_eq_getElem hlt)
  rw [List.getElem?_eq_getElem hi, Option.some.injEq] at hz
  exact ⟨l[i], List.getElem_mem hlt, by rw [e', ← hz, e]⟩

theorem new_sound {own ownN : List Blk} (hO' : Own B0 X A w μ ownN) (hB : B0 ≤ w.heap.size) (hk : μ own.length = none) {ρ : Operand → Option SV} (hρ : ∀ (x : Operand) (s : SV), ρ x = some s → D w (held A μ) μ s (a.eval x)) {o : Oper} {pre : Prop} {s : SV} {b : Blk}
    (he : evNew E.P own ρ o.op = some (pre, s, b)) (hp : pre) (hbl : ownN[own.length]? = some b) :
    ∃ r w' μ', (execOp a.eval o).run E.P w = .ok (.value r) w' ∧ After B0 X A w w' μ μ' ownN ∧ (∀ j, j ≠ own.length → μ' j = μ j) ∧ D w' (held A μ') μ' s r := by
  unfold evNew at he
  split at he
  · rename_i T hop
    simp only [Option.bind_eq_some_iff] at he
    obtain ⟨z, hz, he⟩ := he
    split at he
    rotate_left
    · cases he
    rename_i hc
    simp only [Option.some.injEq, Prod.mk.injEq] at he
    obtain ⟨rfl, rfl, rfl⟩ := he
    obtain ⟨r, w', μ', h1, h2, h3, h4⟩ := alloc_sound (P := E.P) hO' hB hk hz hc hbl
    exact ⟨r, w', μ', by simp [execOp, hop, h1], h2, h3, h4⟩
  · rename_i T x hop
    simp only [Option.bind_eq_some_iff] at he
    obtain ⟨sx, hx, cs, hcs, he⟩ := he
    split at he
    rotate_left
    · cases he
    rename_i hc
    simp only [Option.some.injEq, Prod.mk.injEq] at he
    obtain ⟨rfl, rfl, rfl⟩ := he
    obtain ⟨r, w', μ', h1, h2, h3, h4⟩ := box_sound (P := E.P) hO' hB hk (hρ _ _ hx) hcs hc hbl
    exact ⟨r, w', μ', by simp [execOp, hop, h1], h2, h3, h4⟩
  · rename_i T n parts hop
    simp only [Option.bind_eq_some_iff] at he
    obtain ⟨e, hT, sz, hsz, z, hz, ps, hps, he⟩ := he
    split at he
    rotate_left
    · cases he
    rename_i hc
    obtain ⟨hidx, hn0, hs0, hbig, hzl, hzc, hall⟩ := hc
    simp only [Option.some.injEq, Prod.mk.injEq] at he
    obtain ⟨rfl, rfl, rfl⟩ := he
    simp only [sizeB, Option.map_eq_some_iff] at hsz
    obtain ⟨inf, hinf, rfl⟩ := hsz
    obtain ⟨inf', zv, hi', hzv, rfl, hzD⟩ := zero_sound (w := w) (H := held A μ) (μ := μ) hz
    rw [hinf] at hi'
    cases hi'
    have hzs : zv.cells.size = inf.size := by simpa using hzl
    obtain ⟨l1, l2⟩ := mapM_get hps
    have hlen : ps.length = n := by have := congrArg List.length hidx; simpa using this
    -- each part, its value and its cells
    have part : ∀ (i : Nat) (q : Nat × Operand), parts.toList[i]? = some q → ∃ cs : List SV, ps[i]? = some (q.1, cs) ∧ cs.all SV.isCell = true ∧ cs.all SV.pure = true ∧ cs.length = inf.size ∧ DL w (held A μ) μ cs (a.eval q.2).cells.toList := by
      intro i q hq
      obtain ⟨y, hy, e1⟩ := l2 i q hq
      simp only [Option.bind_eq_some_iff, Option.map_eq_some_iff] at e1
      obtain ⟨sq, hsq, cs, hcs, rfl⟩ := e1
      have hm := List.all_eq_true.1 hall _ (List.mem_of_getElem? hy)
      simp only [Bool.and_eq_true, decide_eq_true_eq] at hm
      exact ⟨cs, hy, hm.1.1, hm.1.2, hm.2, (hρ _ _ hsq).cells hcs⟩
    have hval : ∀ p ∈ parts.toList.map fun (q : Nat × Operand) => (q.1, a.eval q.2), p.2.cells.size = inf.size ∧ ∀ v ∈ p.2.cells.toList, v.oneCell' = true := by
      intro p hp
      obtain ⟨i, hi, e1⟩ := List.mem_iff_getElem.1 hp
      have hi' : i < parts.toList.length := by simpa using hi
      obtain ⟨cs, c1, c2, c3, c4, c5⟩ := part i _ (List.getElem?_eq_getElem hi')
      have : p = (parts.toList[i].1, a.eval parts.toList[i].2) := by rw [← e1]; simp
      subst this
      exact ⟨by have := c5.1; rw [Array.length_toList] at this; exact this.trans c4, one_of_all c5 c2⟩
    have hzone : ∀ v ∈ zv.cells.toList, v.oneCell' = true := one_of_all hzD hzc
    have hmade : ∀ v ∈ (madeCells zv.cells (n * inf.size)).toList, v.oneCell' = true := by
      intro v hv
      obtain ⟨i, hi, e1⟩ := List.mem_iff_getElem.1 hv
      obtain ⟨_, rfl⟩ := madeCells_get _ _ i v (by rw [← e1]; exact List.getElem?_eq_getElem hi)
      have hlt : i % zv.cells.size < zv.cells.size := Nat.mod_lt _ (by omega)
      rw [getElem!_pos zv.cells _ hlt]
      exact hzone _ (by simp)
    have hpl : (parts.toList.map fun (q : Nat × Operand) => (q.1, a.eval q.2)).length = n := by rw [List.length_map, ← l1, hlen]
    have hfst : (parts.toList.map fun (q : Nat × Operand) => (q.1, a.eval q.2)).map (·.1) = List.range' 0 (parts.toList.map fun (q : Nat × Operand) => (q.1, a.eval q.2)).length := by
      rw [hpl, ← List.range_eq_range', ← hidx]
      apply List.ext_getElem?
      intro i
      simp only [List.getElem?_map, List.map_map]
      cases hq : parts.toList[i]? with
      | none =>
        have : ps[i]? = none := by rw [List.getElem?_eq_none_iff] at hq ⊢; rw [l1]; exact hq
        simp [this]
      | some q =>
        obtain ⟨cs, c1, _⟩ := part i q hq
        simp [c1]
    obtain ⟨us, f1, f2, f3, f4, f5⟩ := fill_rows inf.size _ 0 (madeCells zv.cells (n * inf.size)).toList hfst (fun p hp => (hval p hp).1) (by rw [hpl]; simp [size_madeCells]) hmade (fun p hp => (hval p hp).2)
    have hget : ∀ i, i < n → ∃ (q : Nat × Operand) (cs : List SV), parts.toList[i]? = some q ∧ (ps.map (·.2)).getD i [] = cs ∧ cs.all SV.pure = true ∧ cs.length = inf.size ∧ DL w (held A μ) μ cs (a.eval q.2).cells.toList := by
      intro i hi
      have hi' : i < parts.toList.length := by rw [← l1, hlen]; exact hi
      obtain ⟨cs, c1, c2, c3, c4, c5⟩ := part i _ (List.getElem?_eq_getElem hi')
      exact ⟨_, cs, List.getElem?_eq_getElem hi', by simp [List.getD_eq_getElem?_getD, c1], c3, c4, c5⟩
    obtain ⟨μ', h1, h2, h3⟩ := new_row hO' hB hk (vs := us) hbl (Nat.le_refl _) (by
      have : n * 1 ≤ n * inf.size := Nat.mul_le_mul_left _ hs0
      simp only [maxLen]; omega) (fun i hi => by obtain ⟨q, cs, _, e1, e2, e3, _⟩ := hget i hi; rw [e1]; exact ⟨e3, e2⟩) (by rw [f2]; simp [size_madeCells]) f3 (fun i j s v hi hs hv => by
      obtain ⟨q, cs, hq, e1, e2, e3, e4⟩ := hget i hi
      rw [e1] at hs
      have hj : j < inf.size := by rw [← e3]; exact (List.getElem?_eq_some_iff.1 hs).1
      have := f5 i j (q.1, a.eval q.2) (by rw [List.getElem?_map, hq]; rfl) hj
      rw [Nat.zero_add, hv] at this
      exact e4.2 j s v hs this.symm)
    refine ⟨_, _, μ', ?_, h1, h2, h3⟩
    have hm : (parts.map fun (q : Nat × Operand) => (q.1, a.eval q.2)) = (parts.toList.map fun q => (q.1, a.eval q.2)).toArray := by
      apply Array.ext'; simp
    have hmc : (Array.range (n * inf.size)).map (fun i => zv.cells[i % zv.cells.size]!) = (madeCells zv.cells (n * inf.size)).toList.toArray := by apply Array.ext'; simp [madeCells]
    have hnz : ¬ (n * inf.size = 0) := by
      have : 1 * 1 ≤ n * inf.size := Nat.mul_le_mul hn0 hs0
      omega
    simp only [execOp, hop, hm, Instr.buildSlice, Sem.run_bind, run_underlying (isSliceB_sound hT), Result.andThen_ok, run_sizeOf hinf, if_neg (by omega : ¬ n * inf.size > 2 ^ 24), if_neg hnz, Sem.run_pure, run_zeroValue hinf hzv, hmc, f1, newRow]
    simp
  · rename_i T l c hop
    simp only [Option.bind_eq_some_iff] at he
    obtain ⟨e, hT, inf, hinf, z, hz, he⟩ := he
    split at he
    rotate_left
    · cases he
    rename_i kl n kc m hl hc
    split at he
    rotate_left
    · cases he
    rename_i hcond
    obtain ⟨c1, c2, c3, c4⟩ := hcond
    simp only [Option.some.injEq, Prod.mk.injEq] at he
    obtain ⟨rfl, rfl, rfl⟩ := he
    obtain ⟨p1, p2, p3, p4⟩ := hp
    obtain ⟨r, w', μ', h1, h2, h3, h4⟩ := make_sound (P := E.P) (kl := kl) (kc := kc) hO' hB hk hT hinf hz c1 c2 c3 c4 p1 p2 p3 p4 hbl
    have d1 := hρ _ _ hl
    have d2 := hρ _ _ hc
    generalize e1 : a.eval l = v1 at d1
    generalize e2 : a.eval c = v2 at d2
    cases d1; cases d2
    exact ⟨r, w', μ', by simp [execOp, hop, e1, e2, h1], h2, h3, h4⟩
  · cases he

/-- One step: what is known before, what is known behind it. -/
theorem step_sound (hE : EnvOK E) (hC : CSound E) (h : SD E B0 X A w0 nt st a w μ) {ops : Array Oper} {o : Oper} {pre : Prop} {st' : St} (he : stepO E nt ops st o = some (pre, st')) (hp : pre)
    {K : Act → World → Prop} {Q : Exit → Act → World → Prop} (hK : ∀ a' w' μ', SD E B0 X A w0 nt st' a' w' μ' → K a' w') :
    if Region.wanted o (yielded ops a.tmps) then o.wp E.P a w K Q else K (a.put o.dst undef) w := by
  unfold stepO at he
  split at he
  · cases he
  rename_i hdst
  have hd : dstOK nt o.dst = true := by simpa using hdst
  split at he
  · rename_i j p hgd
    split at he
    rotate_left
    · cases he
    rename_i d g hod hgj
    split at he
    rotate_left
    · cases he
    rename_i hlt
    obtain ⟨hlt, hne⟩ := hlt
    simp only [Option.bind_eq_some_iff, Option.map_eq_some_iff, Prod.mk.injEq] at he
    obtain ⟨c, hc, ⟨p0, s⟩, hs, rfl, rfl⟩ := he
    have hdlt : d < a.tmps.size := by rw [h.size]; simpa [dstOK, hod] using hd
    have hw := wanted_iff (a := a) hgd hgj (by rw [h.size]; exact hlt)
    split
    · rename_i hwant
      have hb := hw.1 hwant
      have hcc := guardCond_sound h.env 5 g p c hc hb
      refine soft_sound hE hC h (g := some (g, p)) (fun q b e => by cases e; exact hb) hs (hp hcc) (fun v w' hv hfr => hK _ w' μ ?_)
      have hO := h.own.calls hfr
      have hk : Keeps w w' (held A μ) (held A μ) μ μ := hfr.keeps
      rw [hod]
      refine ⟨hO, h.fr.trans ⟨hfr.os, hfr.tape, hfr.output, hfr.drawn, hfr.size, fun i hi _ => hfr.block i (Nat.lt_of_lt_of_le hi h.base) (fun h => h)⟩, Nat.le_trans h.base hfr.size, glo_keep hk h.glo, h.dfr, by simp [Act.put, h.size], ?_, h.fresh, h.anc⟩
      refine (h.env.keep hk).put hdlt (fun q b e => by cases e; exact hne) ?_
      unfold EntryOK
      simp only
      rw [getD_set hdlt, getD_set hdlt, if_pos rfl, if_neg hne]
      exact ⟨fun _ => hv, fun hn => absurd hb hn⟩
    · rename_i hwant
      have hb : ¬ a.tmps.getD g undef = .bool p := fun hb => hwant (hw.2 hb)
      refine hK _ w μ ?_
      rw [hod]
      refine ⟨h.own, h.fr, h.base, h.glo, h.dfr, by simp [Act.put, h.size], ?_, h.fresh, h.anc⟩
      refine h.env.put hdlt (fun q b e => by cases e; exact hne) ?_
      unfold EntryOK
      simp only
      rw [getD_set hdlt, getD_set hdlt, if_pos rfl, if_neg hne]
      exact ⟨fun hh => absurd hh hb, fun _ => rfl⟩
  · rename_i hgd
    rw [if_pos (by simp [Region.wanted, hgd])]
    have hρ := h.opds (g := none) (fun q b e => by cases e)
    have soft : ∀ {s : SV} {pre : Prop}, evSoft E st none o.op = some (pre, s) → pre → (∀ a' w' μ', SD E B0 X A w0 nt { st with ρ := putE o.dst none s st.ρ } a' w' μ' → K a' w') → o.wp E.P a w K Q := by
      intro s pre hs hp hK
      refine soft_sound hE hC h (g := none) (fun q b e => by cases e) hs hp (fun v w' hv hfr => hK _ w' μ ?_)
      have hk : Keeps w w' (held A μ) (held A μ) μ μ := hfr.keeps
      exact h.put (h.own.calls hfr) ⟨hfr.os, hfr.tape, hfr.output, hfr.drawn, hfr.size, fun i hi _ => hfr.block i (Nat.lt_of_lt_of_le hi h.base) (fun h => h)⟩ (glo_keep hk h.glo) (h.env.keep hk) h.fresh h.anc hd hv
    have fin : ∀ {r : Value} {w' : World}, (execOp a.eval o).run E.P w = .ok (.value r) w' → K (a.put o.dst r) w' → o.wp E.P a w K Q := by
      intro r w' hr hk
      unfold Oper.wp
      rw [hr]
      exact hk
    split at he
    · rename_i T p x hop
      simp only [Option.bind_eq_some_iff] at he
      obtain ⟨sp, hsp, sx, hsx, ⟨p0, own'⟩, hst, he⟩ := he
      split at he
      rotate_left
      · cases he
      rename_i hnd
      simp only [Option.some.injEq, Prod.mk.injEq] at he
      obtain ⟨rfl, rfl⟩ := he
      obtain ⟨w', hr, ha⟩ := store_sound h.own (hρ _ _ hsp) (hρ _ _ hsx) hst hp
      have hrun : (execOp a.eval o).run E.P w = .ok .skip w' := by simp [execOp, hop, hr]
      unfold Oper.wp
      rw [hrun]
      show K (a.put o.dst undef) w'
      rw [hnd]
      have hlen : own'.length = st.own.length := by
        unfold evStore at hst
        simp only [Option.bind_eq_bind, Option.bind_eq_some_iff] at hst
        obtain ⟨n, hn, us, hus, hst⟩ := hst
        split at hst
        rotate_left
        · cases hst
        split at hst <;> (try cases hst)
        all_goals
          split at hst <;> (try cases hst)
          split at hst <;> (try cases hst)
          simp
      exact hK _ w' μ ⟨ha.own, h.fr.trans ha.fr, Nat.le_trans h.base ha.fr.size, glo_keep ha.keeps h.glo, h.dfr, h.size, h.env.keep ha.keeps, fun k hk => h.fresh k (by rw [← hlen]; exact hk), h.anc⟩
    -- new blocks
    iterate 4
      · rename_i hop
        simp only [Option.map_eq_some_iff, Prod.mk.injEq] at he
        obtain ⟨⟨p0, s, b⟩, hn, rfl, rfl⟩ := he
        obtain ⟨r, w', μ', hr, ha, hμ, hv⟩ := new_sound (h.own.more (own' := st.own ++ [b]) app_get) h.base (h.fresh _ (Nat.le_refl _)) hρ hn hp (by simp)
        refine fin hr (hK _ w' μ' ?_)
        refine h.put ha.own ha.fr (glo_keep ha.keeps h.glo) (h.env.keep ha.keeps) (fun k hk => ?_) (fun x hx => ha.keeps.own _ _ (h.anc x hx)) hd hv
        simp only [List.length_append, List.length_cons, List.length_nil] at hk
        rw [hμ k (by omega)]
        exact h.fresh k (by omega)
    · rename_i x y T U hop
      split at he
      rotate_left
      · cases he
      rename_i hTU
      subst hTU
      simp only [Option.bind_eq_some_iff] at he
      obtain ⟨sx, hsx, sy, hsy, ⟨p0, k, own', new⟩, hap, he⟩ := he
      split at he
      · cases he
      rename_i hnanc
      simp only [Option.some.injEq, Prod.mk.injEq] at he
      obtain ⟨rfl, rfl⟩ := he
      obtain ⟨r, w', μ', hr, hv, hafter⟩ := append_sound (ty := o.type) h.own h.base (h.fresh _ (Nat.le_refl _)) (hρ _ _ hsx) (hρ _ _ hsy) hap hp
      have hrun : (execOp a.eval o).run E.P w = .ok (.value r) w' := by
        simp only [execOp, hop, resolve, Sem.run_bind, Sem.run_pure, Result.andThen_ok, invoke, builtin]
        rw [show (⟨[x, y]⟩ : Array Operand).map a.eval = #[a.eval x, a.eval y] from by simp, hr]
        simp
      have hlen : new = true ∧ own'.length = st.own.length + 1 ∨ new = false ∧ own'.length = st.own.length ∧ k < st.own.length := by
        simp only [evAppend, Option.bind_eq_some_iff] at hap
        obtain ⟨e, _, inf, _, z, _, mg, _, hap⟩ := hap
        split at hap
        rotate_left
        · cases hap
        unfold appendTo at hap
        split at hap
        · cases hap; exact .inl ⟨rfl, by simp⟩
        · split at hap
          · rename_i hk
            split at hap
            · cases hap; exact .inr ⟨rfl, by simp, (List.getElem?_eq_some_iff.1 hk).1⟩
            · cases hap
          · cases hap
        · cases hap
      refine fin hrun (hK _ w' μ' ?_)
      rcases hafter with ⟨rfl, ha, hμ⟩ | ⟨rfl, ha, hμ⟩
      · refine h.put ha.own ha.fr (glo_keep ha.keeps h.glo) (h.env.keep ha.keeps) (fun j hj => ?_) (fun x hx => ha.keeps.own _ _ (h.anc x hx)) hd hv
        rcases hlen with ⟨_, hl⟩ | ⟨hf, _⟩
        · rw [hμ j (by omega)]
          exact h.fresh j (by omega)
        · cases hf
      · have hna : ∀ x, E.anc = some x → k = 0 → False := fun x hx e => hnanc (by simp [hx, e])
        refine h.put ha.own ha.fr (glo_change ha.keeps h.glo) (h.env.change ha.keeps) (fun j hj => ?_) (fun x hx => ha.keeps.own _ _ (fun e => hna x hx (by rw [← e])) (h.anc x hx)) hd hv
        rcases hlen with ⟨hf, _⟩ | ⟨_, hl, hkl⟩
        · cases hf
        · rw [hμ j (by omega)]
          exact h.fresh j (by omega)
    · simp only [Option.map_eq_some_iff, Prod.mk.injEq] at he
      obtain ⟨⟨p0, s⟩, hs, rfl, rfl⟩ := he
      exact soft hs hp hK

end

end Go.Proofs.YthfkpmobmnfgcaaDoor.V

/-
  Own rows that are frozen, and calls that rewrite an own row. Conditions: none.
-/
namespace Go.Proofs.YthfkpmobmnfgcaaDoor.V
open Go

/-- An own row k is frozen: from here on it is memory that nobody writes. -/
def SV.fz0 (s : SV) (k : Nat) (t : SV) : SV := match s with
  | .osl j => if j = k then t else .osl j
  | s => s.kill0 k
def SV.fz1 (s : SV) (k : Nat) (t : SV) : SV := match s with
  | .agg cs => .agg (cs.map fun s => s.fz0 k t)
  | s => s.fz0 k t
def SV.fz2 (s : SV) (k : Nat) (t : SV) : SV := match s with
  | .tup vs => .tup (vs.map fun s => s.fz1 k t)
  | s => s.fz1 k t
def Blk.fz (b : Blk) (k : Nat) (t : SV) : Blk := match b with
  | .cells T cs => .cells T (cs.map fun s => s.fz0 k t)
  | b => b

def Mu.drop (k : Nat) (μ : Mu) : Mu := fun j => if j = k then none else μ j

section
variable {w : World} {H H' : Nat → Prop} {μ μ' : Mu} {k : Nat} {t : SV}

theorem fz0_change (hk : Keeps' k w w H H' μ μ') (ht : ∀ v, μ k = some v → D w H' μ' t v) {s : SV} {v : Value} (h : D w H μ s v) : D w H' μ' (s.fz0 k t) v := by
  unfold SV.fz0
  split
  · rename_i j
    split
    · rename_i e
      subst e
      cases h with
      | osl h => exact ht _ h
    · rename_i e
      cases h with
      | osl h => exact .osl (hk.own _ _ e h)
  · exact kill0_change hk h

theorem fz1_change (hk : Keeps' k w w H H' μ μ') (ht : ∀ v, μ k = some v → D w H' μ' t v) {s : SV} {v : Value} (h : D w H μ s v) : D w H' μ' (s.fz1 k t) v := by
  unfold SV.fz1
  split
  · cases h with
    | agg vs hl hd =>
      refine .agg vs (by simpa using hl) (fun i s v hs hv => ?_)
      simp only [List.getElem?_map, Option.map_eq_some_iff] at hs
      obtain ⟨s0, hs0, rfl⟩ := hs
      exact fz0_change hk ht (hd i s0 v hs0 hv)
  · exact fz0_change hk ht h

theorem fz2_change (hk : Keeps' k w w H H' μ μ') (ht : ∀ v, μ k = some v → D w H' μ' t v) {s : SV} {v : Value} (h : D w H μ s v) : D w H' μ' (s.fz2 k t) v := by
  unfold SV.fz2
  split
  · cases h with
    | tup vs hl hd =>
      refine .tup vs (by simpa using hl) (fun i s v hs hv => ?_)
      simp only [List.getElem?_map, Option.map_eq_some_iff] at hs
      obtain ⟨s0, hs0, rfl⟩ := hs
      exact fz1_change hk ht (hd i s0 v hs0 hv)
  · exact fz1_change hk ht h

theorem BlkOK.fz (hk : Keeps' k w w H H' μ μ') (ht : ∀ v, μ k = some v → D w H' μ' t v) {x : Value} {bl : Blk} (h : BlkOK w H μ x bl) : BlkOK w H' μ' x (bl.fz k t) := by
  cases bl with
  | cells T cs =>
    obtain ⟨b, vs, rfl, hh, hl, h1, hd⟩ := h
    refine ⟨b, vs, rfl, hh, by simpa using hl, h1, fun i s v hs hv => ?_⟩
    simp only [List.getElem?_map, Option.map_eq_some_iff] at hs
    obtain ⟨s0, hs0, rfl⟩ := hs
    exact fz0_change hk ht (hd i s0 v hs0 hv)
  | row T sz n f c =>
    have := BlkOK.change hk (fun _ _ => rfl) h
    exact this
end

/-- The view of a row as memory that nobody writes. -/
theorem row_sl {w : World} {H H' : Nat → Prop} {μ μ' : Mu} {x : Value} {T : TypeId} {sz n : Nat} {f : Nat → List SV} {c : Option Nat} (hH : ∀ b, H' b → H b) (hx : ∀ b, blkOf x = some b → ¬ H' b) (h : BlkOK w H μ x (.row T sz n f c)) : D w H' μ' (.sl sz n f c) x := by
  obtain ⟨a, m, rfl, hn, hm, hc, hl, hrest⟩ := h
  rcases hrest with ⟨rfl, rfl⟩ | ⟨b, o, vs, rfl, hh, ho, h1, hD⟩
  · exact .sl none 0 0 0 (fun _ _ => undef) hn hm hc (fun h => absurd h (by omega)) hl (fun i j s hi => absurd hi (by omega))
  · have hnb : ¬ H' b := hx b rfl
    have hin : ∀ i j, i < n → j < sz → o + i * sz + j < vs.length := fun i j hi hj => by
      have := idx_lt hi hj
      have : n * sz ≤ m * sz := Nat.mul_le_mul_right _ hn
      omega
    refine .sl _ b o m (fun i j => vs.getD (o + i * sz + j) undef) hn hm hc (fun _ => ⟨rfl, hnb, lt_of_row hh, fun i j hi hj => ?_⟩) hl (fun i j s hi hs => ?_)
    · have := hin i j hi hj
      rw [cell_row hh, List.getElem?_eq_getElem this]
      simp only [List.getD_eq_getElem?_getD, List.getElem?_eq_getElem this, Option.getD_some]
      exact ⟨trivial, h1 _ (List.getElem_mem this)⟩
    · have hj : j < sz := by rw [← (hl i hi).1]; exact (List.getElem?_eq_some_iff.1 hs).1
      have := hin i j hi hj
      simp only [List.getD_eq_getElem?_getD, List.getElem?_eq_getElem this, Option.getD_some]
      exact pure_mono hH (hD i j s _ hi hs (List.getElem?_eq_getElem this)) (List.all_eq_true.1 (hl i hi).2 s (List.mem_of_getElem? hs))

def St.fz (E : Env) (k : Nat) (st : St) : St := match st.own[k]? with
  | some (.row _ sz n f c) => if E.anc.isSome && k == 0 then st else ⟨st.ρ.map fun e => { e with sv := e.sv.fz2 k (.sl sz n f c) }, st.own.map fun b => b.fz k (.sl sz n f c)⟩
  | _ => st

section
variable {E : Env} {B0 : Nat} {X A : Nat → Prop} {w0 : World} {nt : Nat} {st : St} {a : Act} {w : World} {μ : Mu}

theorem fz_sound (h : SD E B0 X A w0 nt st a w μ) (k : Nat) : ∃ μ', SD E B0 X A w0 nt (st.fz E k) a w μ' := by
  unfold St.fz
  split
  rotate_left
  · exact ⟨μ, h⟩
  rename_i T sz n f c hk
  split
  · exact ⟨μ, h⟩
  rename_i hanc
  have hle : ∀ b, held A (μ.drop k) b → held A μ b := by
    intro b hb
    rcases hb with hb | ⟨j, x, hj, hx⟩
    · exact .inl hb
    · unfold Mu.drop at hj
      split at hj
      · cases hj
      · exact .inr ⟨j, x, hj, hx⟩
  have hK : Keeps' k w w (held A μ) (held A (μ.drop k)) μ (μ.drop k) := ⟨Nat.le_refl _, fun _ _ _ => rfl, fun b _ hb => hle b hb, fun j x hj hx => by simp [Mu.drop, hj, hx], fun b hb => by
    obtain ⟨bl, e, hok⟩ := h.own.blk _ _ hb
    rw [hk] at e
    cases e
    obtain ⟨a, m, e1, _⟩ := hok
    cases e1⟩
  have ht : ∀ v, μ k = some v → D w (held A (μ.drop k)) (μ.drop k) (.sl sz n f c) v := by
    intro v hv
    obtain ⟨bl, e, hok⟩ := h.own.blk _ _ hv
    rw [hk] at e
    cases e
    refine row_sl hle (fun b hb hh => ?_) hok
    rcases hh with hh | ⟨j, x, hj, hx⟩
    · exact (h.own.rng _ _ b hv hb).2.1 hh
    · unfold Mu.drop at hj
      split at hj
      · cases hj
      · rename_i hne
        exact hne (h.own.inj j k x v b hj hv hx hb)
  have hd : ∀ {j x}, μ.drop k j = some x → μ j = some x := by
    intro j x hj
    unfold Mu.drop at hj
    split at hj
    · cases hj
    · exact hj
  refine ⟨μ.drop k, ⟨fun j x hj => ?_, fun j j' x x' b hj hj' => h.own.inj j j' x x' b (hd hj) (hd hj'), fun j x b hj => h.own.rng j x b (hd hj), h.own.bnd⟩, h.fr, h.base, fun g s hg => ⟨(h.glo g s hg).1, pure_mono hle (h.glo g s hg).2 (h.glo g s hg).1⟩, h.dfr, h.size, fun t e he => ?_, fun j hj => ?_, fun x hx => ?_⟩
  · obtain ⟨bl, e, hok⟩ := h.own.blk j x (hd hj)
    exact ⟨bl.fz k (.sl sz n f c), by simp [e], hok.fz hK ht⟩
  · rw [look_map (f := fun (e : Entry) => { e with sv := e.sv.fz2 k (.sl sz n f c) }) (fun _ => rfl), Option.map_eq_some_iff] at he
    obtain ⟨e0, he0, rfl⟩ := he
    have := h.env t e0 he0
    unfold EntryOK at this ⊢
    simp only
    split at this
    · exact fz2_change hK ht this
    · exact ⟨fun hg => fz2_change hK ht (this.1 hg), this.2⟩
  · have := h.fresh j (by simpa using hj)
    simp [Mu.drop, this]
  · have := h.anc x hx
    unfold Mu.drop
    rw [if_neg (fun e => hanc (by simp [hx, ← e]))]
    exact this
end

def evEff (E : Env) (own : List Blk) (ρ : Operand → Option SV) (op : Op) : Option (Prop × SV × List Blk) :=
  match op with
  | .call c => match c.callee, c.args.toList with
    | .value f, x :: rest => match ρ f, ρ x with
      | some (.clo fid []), some (.osl k) => match E.X fid, own[k]? with
        | some e, some (.row T sz n g cp) => (rest.mapM ρ).bind fun xs => if xs.any SV.hasOsl then none else (xs.mapM (SV.roA own)).bind fun ys => (e T sz n g ys).map fun r => (r.1, if r.2.2 then .osl k else .tup [], own.set k (.row T sz n r.2.1 cp))
        | _, _ => none
      | _, _ => none
    | _, _ => none
  | _ => none

def stepE (E : Env) (nt : Nat) (ops : Array Oper) (st : St) (o : Oper) : Option (Prop × St) :=
  match o.guard with
  | some _ => stepO E nt ops st o
  | none => match evEff E st.own (opd E st.ρ none) o.op with
    | some r => if dstOK nt o.dst then some (r.1, ⟨putE o.dst none r.2.1 st.ρ, r.2.2⟩) else none
    | none => stepO E nt ops st o

/-- The own rows that an operation reads from. -/
def oslsOf : SV → List Nat
  | .osl k => [k]
  | .agg cs => cs.filterMap fun s => match s with | .osl k => some k | _ => none
  | _ => []
def fzOps (E : Env) (o : Oper) (st : St) : List Operand → St
  | [] => st
  | .tmp t :: r => fzOps E o (match look t st.ρ with
    | some e => (oslsOf e.sv).foldl (fun st k => st.fz E k) st
    | none => st) r
  | _ :: r => fzOps E o st r
def stepF (E : Env) (nt : Nat) (ops : Array Oper) (st : St) (o : Oper) : Option (Prop × St) :=
  match o.dst with
  | none => stepE E nt ops st o
  | some d => match E.fz d with
    | true => stepE E nt ops (fzOps E o st o.op.operands.toList) o
    | false => stepE E nt ops st o

section
variable {E : Env} {B0 : Nat} {X A : Nat → Prop} {w0 : World} {nt : Nat} {st : St} {a : Act} {w : World} {μ : Mu}

theorem fzL_sound (ks : List Nat) : ∀ {st : St} {μ : Mu}, SD E B0 X A w0 nt st a w μ → ∃ μ', SD E B0 X A w0 nt (ks.foldl (fun st k => st.fz E k) st) a w μ' := by
  induction ks with
  | nil => intro st μ h; exact ⟨μ, h⟩
  | cons k ks ih => intro st μ h; obtain ⟨μ', h'⟩ := fz_sound h k; exact ih h'

theorem fzOps_sound (o : Oper) : ∀ (l : List Operand) {st : St} {μ : Mu}, SD E B0 X A w0 nt st a w μ → ∃ μ', SD E B0 X A w0 nt (fzOps E o st l) a w μ' := by
  intro l
  induction l with
  | nil => intro st μ h; exact ⟨μ, h⟩
  | cons x l ih =>
    intro st μ h
    cases x with
    | tmp t =>
      simp only [fzOps]
      split
      · obtain ⟨μ', h'⟩ := fzL_sound (oslsOf _) h
        exact ih h'
      · exact ih h
    | const _ => exact ih h
    | global _ => exact ih h
    | func _ => exact ih h
end

theorem BlkOK.row_mono {w : World} {H H' : Nat → Prop} {μ μ' : Mu} {x : Value} {T : TypeId} {sz n : Nat} {f : Nat → List SV} {c : Option Nat} (hH : ∀ b, H' b → H b) (h : BlkOK w H μ x (.row T sz n f c)) : BlkOK w H' μ' x (.row T sz n f c) := by
  obtain ⟨a, m, rfl, hn, hm, hc, hl, h⟩ := h
  refine ⟨a, m, rfl, hn, hm, hc, hl, ?_⟩
  rcases h with h | ⟨b, o, vs, rfl, hh, ho, h1, hd⟩
  · exact .inl h
  · exact .inr ⟨b, o, vs, rfl, hh, ho, h1, fun i j s v hi hs hv => pure_mono hH (hd i j s v hi hs hv) (List.all_eq_true.1 (hl i hi).2 s (List.mem_of_getElem? hs))⟩

theorem ro_noosl {B0 : Nat} {X A : Nat → Prop} {w : World} {μ : Mu} {own : List Blk} {xs ys : List SV} {vs : List Value} (hO : Own B0 X A w μ own) (hD : DL w (held A μ) μ xs vs) (hys : xs.mapM (SV.roA own) = some ys) (hno : xs.any SV.hasOsl = false) {H' : Nat → Prop} (hH : ∀ b, H' b → held A μ b) : DL w H' Nobody ys vs := by
  obtain ⟨l1, l2⟩ := mapM_get hys
  refine ⟨by rw [hD.1, l1], fun i s v hs hv => ?_⟩
  have hlt : i < xs.length := by rw [← l1]; exact (List.getElem?_eq_some_iff.1 hs).1
  obtain ⟨y, hy, e⟩ := l2 i _ (List.getElem?_eq_getElem hlt)
  rw [hs] at hy
  cases hy
  refine roA_sound hO (fun _ _ h => h) hH (hD.2 i _ v (List.getElem?_eq_getElem hlt) hv) e (fun h => ?_)
  have : xs.any SV.hasOsl = true := by simp only [List.any_eq_true]; exact ⟨_, List.getElem_mem hlt, h⟩
  rw [hno] at this
  cases this

section
variable {E : Env} {B0 : Nat} {X A : Nat → Prop} {w0 : World} {nt : Nat} {st : St} {a : Act} {w : World} {μ : Mu}

theorem eff_sound (hC : CSound E) (h : SD E B0 X A w0 nt st a w μ) {o : Oper} {pre : Prop} {s : SV} {own' : List Blk} (he : evEff E st.own (opd E st.ρ none) o.op = some (pre, s, own')) (hp : pre) :
    ∃ f vals, (execOp a.eval o).run E.P w = .ok (.enter f vals) w ∧ own'.length = st.own.length ∧ Calls E.P f vals w fun e w' => ∃ v, e = .returned v ∧ D w' (held A μ) μ s v ∧ After B0 X A w w' μ μ own' := by
  unfold evEff at he
  split at he
  rotate_left
  · cases he
  rename_i c hop
  split at he
  rotate_left
  · cases he
  rename_i f x rest hf hargs
  split at he
  rotate_left
  · cases he
  rename_i fid k hρf hρx
  split at he
  rotate_left
  · cases he
  rename_i e T sz n g cp hX hk
  simp only [Option.bind_eq_some_iff] at he
  obtain ⟨xs, hxs, he⟩ := he
  split at he
  · cases he
  rename_i hno
  simp only [Option.bind_eq_some_iff, Option.map_eq_some_iff, Prod.mk.injEq] at he
  obtain ⟨ys, hys, ⟨p, g', r⟩, hr, rfl, rfl, rfl⟩ := he
  have hρ := h.opds (g := none) (fun q b e => by cases e)
  obtain ⟨⟨fn, h1, h2, h3⟩, hS⟩ := hC.2 fid e hX
  have hfd := hρ _ _ hρf
  generalize hvf : a.eval f = vf at hfd
  have hxd := hρ _ _ hρx
  generalize hvx : a.eval x = v at hxd
  cases hfd with
  | clo cvs hcl hcd =>
  have hcv : cvs = [] := List.length_eq_zero_iff.1 hcl
  subst hcv
  have hμk : μ k = some v := by cases hxd with | osl h => exact h
  have hDr := args_sound (a := a) hρ hxs
  obtain ⟨bl, e1, hok⟩ := h.own.blk k v hμk
  rw [hk] at e1
  cases e1
  let Ac : Nat → Prop := fun b => held A μ b ∧ blkOf v ≠ some b
  have hAc : ∀ b, held Ac (Solo v) b ↔ held A μ b := by
    intro b
    constructor
    · rintro (hb | ⟨j, y, hj, hy⟩)
      · exact hb.1
      · unfold Solo at hj
        split at hj
        · cases hj; exact .inr ⟨k, v, hμk, hy⟩
        · cases hj
    · intro hb
      by_cases e : blkOf v = some b
      · exact .inr ⟨0, v, rfl, e⟩
      · exact .inl ⟨hb, e⟩
  have hbd : ∀ b, held A μ b → b < w.heap.size := fun b hb => by
    rcases hb with hb | ⟨k, x, hk, hx⟩
    · exact h.own.bnd b hb
    · exact (h.own.rng k x b hk hx).1
  refine ⟨fid, (v :: rest.map a.eval).toArray, ?_, by simp, ?_⟩
  · have hm : c.args.map a.eval = (v :: rest.map a.eval).toArray := by
      apply Array.ext'
      rw [Array.toList_map, hargs]
      simp [hvx]
    simp only [execOp, hop, resolve, hf, hvf, Deferred.ofValue, hm, Sem.run_bind, Sem.run_pure, Result.andThen_ok, invoke, callFunc, run_program, h1, h2, Bool.false_eq_true, if_false, h3]
    simp
  · refine (hS Ac w v T sz n g cp ys _ p g' r (fun b hb => hbd b hb.1) (fun b hb => ⟨(h.own.rng k v b hμk hb).1, fun hh => hh.2 hb⟩) (fun q t hg => ⟨(h.glo q t hg).1, pure_mono (fun b hb => (hAc b).1 hb) (h.glo q t hg).2 (h.glo q t hg).1⟩) (hok.row_mono (fun b hb => (hAc b).1 hb))
      (ro_noosl h.own hDr hys (by simpa using hno) (fun b hb => (hAc b).1 hb)) hr hp).mono ?_
    rintro e w' ⟨res, rfl, r1, r2, hB, hfr⟩
    have hkp : Keeps w w' (held A μ) (held A μ) μ μ := ⟨hfr.size, fun b hb hh => hfr.block b hb (fun e => hh (.inr ⟨k, v, hμk, e⟩)), fun _ _ h => h, fun _ _ h => h⟩
    refine ⟨res, rfl, ?_, ⟨fun j y hj => ?_, h.own.inj, fun j y b hj hb => ?_, fun b hb => Nat.lt_of_lt_of_le (h.own.bnd b hb) hfr.size⟩, ⟨hfr.os, hfr.tape, hfr.output, hfr.drawn, hfr.size, fun i hi hx => ?_⟩, hkp⟩
    · cases r with
      | true => rw [r1 rfl]; rw [if_pos rfl]; cases hxd with | osl h => exact .osl h
      | false => rw [r2 rfl]; exact .tup [] rfl (fun i s v h => by simp at h)
    · by_cases e : j = k
      · subst e
        rw [hμk] at hj
        cases hj
        exact ⟨_, by rw [List.getElem?_set_self (List.getElem?_eq_some_iff.1 hk).1], hB.row_mono (fun b hb => (hAc b).2 hb)⟩
      · obtain ⟨bl, e1, hb⟩ := h.own.blk j y hj
        refine ⟨bl, by rw [List.getElem?_set_ne (Ne.symm e)]; exact e1, hb.keep hkp (fun b hb => hfr.block b (h.own.rng j y b hj hb).1 (fun e2 => e (h.own.inj j k y v b hj hμk hb e2)))⟩
    · obtain ⟨q1, q2⟩ := h.own.rng j y b hj hb
      exact ⟨Nat.lt_of_lt_of_le q1 hfr.size, q2⟩
    · refine hfr.block i (Nat.lt_of_lt_of_le hi h.base) (fun e => ?_)
      rcases (h.own.rng k v i hμk e).2.2 with h1 | h1
      · omega
      · exact hx h1

theorem stepE_sound (hE : EnvOK E) (hC : CSound E) (h : SD E B0 X A w0 nt st a w μ) {ops : Array Oper} {o : Oper} {pre : Prop} {st' : St} (he : stepE E nt ops st o = some (pre, st')) (hp : pre)
    {K : Act → World → Prop} {Q : Exit → Act → World → Prop} (hK : ∀ a' w' μ', SD E B0 X A w0 nt st' a' w' μ' → K a' w') :
    if Region.wanted o (yielded ops a.tmps) then o.wp E.P a w K Q else K (a.put o.dst undef) w := by
  unfold stepE at he
  split at he
  · exact step_sound hE hC h he hp hK
  rename_i hgd
  split at he
  rotate_left
  · exact step_sound hE hC h he hp hK
  rename_i r hr
  obtain ⟨p, s, own'⟩ := r
  split at he
  rotate_left
  · cases he
  rename_i hd
  simp only [Option.some.injEq, Prod.mk.injEq] at he
  obtain ⟨rfl, rfl⟩ := he
  rw [if_pos (by simp [Region.wanted, hgd])]
  obtain ⟨f, vals, hrun, hlen, hc⟩ := eff_sound hC h hr hp
  unfold Oper.wp
  rw [hrun]
  refine hc.mono ?_
  rintro e w' ⟨v, rfl, hv, ha⟩
  exact hK _ w' μ (h.put ha.own ha.fr (glo_keep ha.keeps h.glo) (h.env.keep ha.keeps) (fun k hk => h.fresh k (by rw [← hlen]; exact hk)) h.anc hd hv)

theorem stepF_sound (hE : EnvOK E) (hC : CSound E) (h : SD E B0 X A w0 nt st a w μ) {ops : Array Oper} {o : Oper} {pre : Prop} {st' : St} (he : stepF E nt ops st o = some (pre, st')) (hp : pre)
    {K : Act → World → Prop} {Q : Exit → Act → World → Prop} (hK : ∀ a' w' μ', SD E B0 X A w0 nt st' a' w' μ' → K a' w') :
    if Region.wanted o (yielded ops a.tmps) then o.wp E.P a w K Q else K (a.put o.dst undef) w := by
  unfold stepF at he
  split at he
  · exact stepE_sound hE hC h he hp hK
  · split at he
    · obtain ⟨μ', h'⟩ := fzOps_sound o o.op.operands.toList h
      exact stepE_sound hE hC h' he hp hK
    · exact stepE_sound hE hC h he hp hK
end

end Go.Proofs.YthfkpmobmnfgcaaDoor.V

/-
  Code over symbolic states: regions in the order of the text, branches, blocks, loops by invariants. Conditions: none.
-/
namespace Go.Proofs.YthfkpmobmnfgcaaDoor.V
open Go

def seqR (E : Env) (nt : Nat) (ops : Array Oper) : List Oper → St → Option (Prop × St)
  | [], st => some (True, st)
  | o :: r, st => (stepF E nt ops st o).bind fun p => (seqR E nt ops r p.2).map fun q => (p.1 ∧ q.1, q.2)

/-- The same state, laid out in full: so that what is reckoned stays small. -/
def fNat : Nat → (Nat → Prop) → Prop
  | 0, K => K 0
  | n + 1, K => fNat n fun m => K (m + 1)
theorem fNat_eq : ∀ (n : Nat) (K : Nat → Prop), fNat n K = K n
  | 0, _ => rfl
  | n + 1, K => by simp only [fNat, fNat_eq n]
def SV.f0 (s : SV) (K : SV → Prop) : Prop := match s with
  | .int k n => K (.int k n)
  | .bool b => K (.bool b)
  | .con v => K (.con v)
  | .own k o => fNat k fun k => fNat o fun o => K (.own k o)
  | .osl k => fNat k fun k => K (.osl k)
  | .oel k sz i o => fNat k fun k => fNat o fun o => K (.oel k sz i o)
  | .sl sz n f c => K (.sl sz n f c)
  | .rel sz n f i o => fNat o fun o => K (.rel sz n f i o)
  | .agg cs => K (.agg cs)
  | .tup cs => K (.tup cs)
  | .clo f cs => K (.clo f cs)
  | .any => K .any
def fL (f : SV → (SV → Prop) → Prop) : List SV → (List SV → Prop) → Prop
  | [], K => K []
  | s :: r, K => f s fun s' => fL f r fun r' => K (s' :: r')
def SV.f1 (s : SV) (K : SV → Prop) : Prop := match s with
  | .agg cs => fL SV.f0 cs fun cs' => K (.agg cs')
  | .clo f cs => fL SV.f0 cs fun cs' => K (.clo f cs')
  | s => s.f0 K
def SV.f2 (s : SV) (K : SV → Prop) : Prop := match s with
  | .tup cs => fL SV.f1 cs fun cs' => K (.tup cs')
  | s => s.f1 K
def fG (g : Option (Nat × Bool)) (K : Option (Nat × Bool) → Prop) : Prop := match g with
  | none => K none
  | some (n, true) => K (some (n, true))
  | some (n, false) => K (some (n, false))
def fE : List Entry → (List Entry → Prop) → Prop
  | [], K => K []
  | ⟨n, g, s⟩ :: r, K => fG g fun g' => s.f2 fun s' => fE r fun r' => K (⟨n, g', s'⟩ :: r')
def fB : List Blk → (List Blk → Prop) → Prop
  | [], K => K []
  | .cells T cs :: r, K => fL SV.f0 cs fun cs' => fB r fun r' => K (.cells T cs' :: r')
  | .row T sz n f c :: r, K => fB r fun r' => K (.row T sz n f c :: r')
def St.force (st : St) (K : St → Prop) : Prop := match st with
  | ⟨ρ, own⟩ => fE ρ fun ρ' => fB own fun own' => K ⟨ρ', own'⟩

theorem SV.f0_eq (s : SV) (K : SV → Prop) : s.f0 K = K s := by cases s <;> simp only [SV.f0, fNat_eq]
theorem fL_eq {f : SV → (SV → Prop) → Prop} (hf : ∀ s K, f s K = K s) : ∀ (l : List SV) (K : List SV → Prop), fL f l K = K l
  | [], _ => rfl
  | s :: r, K => by simp only [fL, hf, fL_eq hf r]
theorem SV.f1_eq (s : SV) (K : SV → Prop) : s.f1 K = K s := by
  cases s <;> simp only [SV.f1, SV.f0_eq, fL_eq SV.f0_eq]
theorem SV.f2_eq (s : SV) (K : SV → Prop) : s.f2 K = K s := by
  cases s <;> simp only [SV.f2, SV.f1_eq, fL_eq SV.f1_eq]
theorem fG_eq (g : Option (Nat × Bool)) (K : Option (Nat × Bool) → Prop) : fG g K = K g := by
  match g with
  | none => rfl
  | some (n, true) => rfl
  | some (n, false) => rfl
theorem fE_eq : ∀ (l : List Entry) (K : List Entry → Prop), fE l K = K l
  | [], _ => rfl
  | ⟨n, g, s⟩ :: r, K => by simp only [fE, fG_eq, SV.f2_eq, fE_eq r]
theorem fB_eq : ∀ (l : List Blk) (K : List Blk → Prop), fB l K = K l
  | [], _ => rfl
  | .cells T cs :: r, K => by simp only [fB, fL_eq SV.f0_eq, fB_eq r]
  | .row T sz n f c :: r, K => by simp only [fB, fB_eq r]
theorem St.force_eq (st : St) (K : St → Prop) : st.force K = K st := by
  cases st; simp only [St.force, fE_eq, fB_eq]

/-- What a step asks. -/
def Ask (p : Prop) : Prop := p
theorem Ask.mk {p : Prop} (h : p) : Ask p := h
theorem Ask.out {p : Prop} (h : Ask p) : p := h
attribute [irreducible] Ask
/-- What a second look asks: the same value. -/
def Late (a b : Option Entry) : Prop := a = b
theorem Late.mk {a b : Option Entry} (h : a = b) : Late a b := h
theorem Late.out {a b : Option Entry} (h : Late a b) : a = b := h
attribute [irreducible] Late

/-- Step by step, with what is to hold behind it. -/
def seqK (E : Env) (nt : Nat) (ops : Array Oper) (K : St → Prop) : List Oper → St → Prop
  | [], st => K st
  | o :: r, st => match stepF E nt ops st o with
    | some (p, st') => Ask p ∧ st'.force (seqK E nt ops K r)
    | none => False

theorem seqK_seqR {E : Env} {nt : Nat} {ops : Array Oper} {K : St → Prop} : ∀ (l : List Oper) (st : St), seqK E nt ops K l st → ∃ p st', seqR E nt ops l st = some (p, st') ∧ p ∧ K st' := by
  intro l
  induction l with
  | nil => intro st h; exact ⟨True, st, rfl, trivial, h⟩
  | cons o l ih =>
    intro st h
    simp only [seqK] at h
    split at h
    · rename_i p st1 h1
      rw [St.force_eq] at h
      obtain ⟨q, st2, e, hq, hk⟩ := ih st1 h.2
      exact ⟨p ∧ q, st2, by simp [seqR, h1, e], ⟨h.1.out, hq⟩, hk⟩
    · exact h.elim

def capLe : Option Nat → Option Nat → Prop
  | _, none => True
  | c, some m => c = some m

/-- What the one tells, the other tells too. -/
def SV.le0 : SV → SV → Prop
  | _, .any => True
  | .int k n, .int k' m => if k = k' then n = m else False
  | .bool b, .bool c => b = c
  | .con v, .con v' => v = v'
  | .own k o, .own k' o' => if k = k' ∧ o = o' then True else False
  | .osl k, .osl k' => if k = k' then True else False
  | .oel k sz i o, .oel k' sz' i' o' => k = k' ∧ sz = sz' ∧ i = i' ∧ o = o'
  | .sl sz n f c, .sl sz' n' f' c' => n = n' ∧ (if sz = sz' then True else n = 0) ∧ capLe c c' ∧ ∀ i, i < n → f i = f' i
  | .con (.slice none 0 0), .sl _ n' _ c' => n' = 0 ∧ capLe (some 0) c'
  | .rel sz n f i o, .rel sz' n' f' i' o' => sz = sz' ∧ n = n' ∧ i = i' ∧ o = o' ∧ ∀ j, j < n → f j = f' j
  | .clo f cs, .clo f' cs' => f = f' ∧ cs = cs'
  | _, _ => False

def le0L : List SV → List SV → Prop
  | [], [] => True
  | s :: r, t :: q => s.le0 t ∧ le0L r q
  | _, _ => False
def SV.le1 : SV → SV → Prop
  | .agg cs, .agg cs' => le0L cs cs'
  | s, t => s.le0 t
def le1L : List SV → List SV → Prop
  | [], [] => True
  | s :: r, t :: q => s.le1 t ∧ le1L r q
  | _, _ => False
def SV.le2 : SV → SV → Prop
  | .tup cs, .tup cs' => le1L cs cs'
  | s, t => s.le1 t

section
variable {w : World} {H : Nat → Prop} {μ : Mu}

theorem capLe_sound {c c' : Option Nat} {m : Nat} (h : capLe c c') (hc : c = none ∨ c = some m) : c' = none ∨ c' = some m := by
  cases c' with
  | none => exact .inl rfl
  | some k =>
    simp only [capLe] at h
    subst h
    rcases hc with hc | hc
    · cases hc
    · exact .inr hc

theorem le0_sound {s t : SV} {v : Value} (h : D w H μ s v) (hle : s.le0 t) : D w H μ t v := by
  unfold SV.le0 at hle
  split at hle
  · exact .any
  · split at hle
    · subst_vars; exact h
    · exact hle.elim
  · subst hle; exact h
  · subst hle; exact h
  · split at hle
    · rename_i e; obtain ⟨rfl, rfl⟩ := e; exact h
    · exact hle.elim
  · split at hle
    · subst_vars; exact h
    · exact hle.elim
  · obtain ⟨rfl, rfl, rfl, rfl⟩ := hle; exact h
  · rename_i sz n f c sz' n' f' c'
    obtain ⟨rfl, hsz, hc, hf⟩ := hle
    cases h with
    | sl a b o m g hm hx hcc hrow hl hd =>
      by_cases h0 : n = 0
      · subst h0
        exact .sl a b o m g hm hx (capLe_sound hc hcc) (fun h => absurd h (Nat.lt_irrefl _)) (fun i hi => absurd hi (Nat.not_lt_zero _)) (fun i j s hi => absurd hi (Nat.not_lt_zero _))
      · have e : sz = sz' := by
          split at hsz
          · assumption
          · exact absurd hsz h0
        subst e
        exact .sl a b o m g hm hx (capLe_sound hc hcc) hrow (fun i hi => by rw [← hf i hi]; exact hl i hi) (fun i j s hi hs => hd i j s hi (by rw [hf i hi]; exact hs))
  · obtain ⟨rfl, hc⟩ := hle
    cases h
    exact .sl none 0 0 0 (fun _ _ => undef) (Nat.le_refl _) (by simp [maxLen]) (capLe_sound hc (.inr rfl)) (fun h => absurd h (Nat.lt_irrefl _)) (fun i hi => absurd hi (Nat.not_lt_zero _)) (fun i j s hi => absurd hi (Nat.not_lt_zero _))
  · obtain ⟨rfl, rfl, rfl, rfl, hf⟩ := hle
    cases h with
    | rel b o g hi hb hrow hl hd => exact .rel b o g hi hb hrow (fun i hi => by rw [← hf i hi]; exact hl i hi) (fun i j s hi hs => hd i j s hi (by rw [hf i hi]; exact hs))
  · obtain ⟨rfl, rfl⟩ := hle; exact h
  · exact hle.elim

theorem le0L_get : ∀ {cs cs' : List SV}, le0L cs cs' → cs.length = cs'.length ∧ ∀ (i : Nat) (t : SV), cs'[i]? = some t → ∃ s, cs[i]? = some s ∧ s.le0 t
  | [], [], _ => ⟨rfl, fun i t h => by simp at h⟩
  | s :: r, t :: q, h => by
    obtain ⟨h1, h2⟩ := le0L_get h.2
    refine ⟨by simp [h1], fun i t' ht => ?_⟩
    match i with
    | 0 => simp at ht; subst ht; exact ⟨s, rfl, h.1⟩
    | i + 1 => simpa using h2 i t' (by simpa using ht)
  | [], _ :: _, h => h.elim
  | _ :: _, [], h => h.elim

theorem le1_sound {s t : SV} {v : Value} (h : D w H μ s v) (hle : s.le1 t) : D w H μ t v := by
  unfold SV.le1 at hle
  split at hle
  · obtain ⟨h1, h2⟩ := le0L_get hle
    cases h with
    | agg vs hl hd =>
      refine .agg vs (by omega) (fun i t v ht hv => ?_)
      obtain ⟨s, hs, hst⟩ := h2 i t ht
      exact le0_sound (hd i s v hs hv) hst
  · exact le0_sound h hle

theorem le1L_get : ∀ {cs cs' : List SV}, le1L cs cs' → cs.length = cs'.length ∧ ∀ (i : Nat) (t : SV), cs'[i]? = some t → ∃ s, cs[i]? = some s ∧ s.le1 t
  | [], [], _ => ⟨rfl, fun i t h => by simp at h⟩
  | s :: r, t :: q, h => by
    obtain ⟨h1, h2⟩ := le1L_get h.2
    refine ⟨by simp [h1], fun i t' ht => ?_⟩
    match i with
    | 0 => simp at ht; subst ht; exact ⟨s, rfl, h.1⟩
    | i + 1 => simpa using h2 i t' (by simpa using ht)
  | [], _ :: _, h => h.elim
  | _ :: _, [], h => h.elim

theorem le2_sound {s t : SV} {v : Value} (h : D w H μ s v) (hle : s.le2 t) : D w H μ t v := by
  unfold SV.le2 at hle
  split at hle
  · obtain ⟨h1, h2⟩ := le1L_get hle
    cases h with
    | tup vs hl hd =>
      refine .tup vs (by omega) (fun i t v ht hv => ?_)
      obtain ⟨s, hs, hst⟩ := h2 i t ht
      exact le1_sound (hd i s v hs hv) hst
  · exact le1_sound h hle
end

/-- The own blocks that a value names are among the first n. -/
def SV.in0 (n : Nat) : SV → Bool
  | .own k _ => decide (k < n)
  | .osl k => decide (k < n)
  | .oel k _ _ _ => decide (k < n)
  | .clo _ cs => cs.all fun c => match c with
    | .own k _ => decide (k < n)
    | .osl _ | .oel _ _ _ _ | .agg _ | .tup _ => false
    | .clo _ cs => cs.isEmpty
    | _ => true
  | .agg _ | .tup _ => false
  | _ => true
def SV.in1 (n : Nat) : SV → Bool
  | .agg cs => cs.all (SV.in0 n)
  | s => s.in0 n
def SV.in2 (n : Nat) : SV → Bool
  | .tup cs => cs.all (SV.in1 n)
  | s => s.in1 n

def cut (n : Nat) (μ : Mu) : Mu := fun k => if k < n then μ k else none

section
variable {w : World} {H H' : Nat → Prop} {μ : Mu} {n : Nat}

theorem in0_sound (hH : ∀ b, H' b → H b) {s : SV} {v : Value} (h : D w H μ s v) (hi : s.in0 n = true) : D w H' (cut n μ) s v := by
  have c : ∀ {k x}, k < n → μ k = some x → cut n μ k = some x := fun hk hx => by simp [cut, hk, hx]
  cases h with
  | int => exact .int
  | bool => exact .bool
  | con => exact .con
  | own h => exact .own (c (by simpa [SV.in0] using hi) h)
  | osl h => exact .osl (c (by simpa [SV.in0] using hi) h)
  | oel h => exact .oel (c (by simpa [SV.in0] using hi) h)
  | sl a b o m g hm hx hc hrow hl hd => exact pure_mono hH (.sl a b o m g hm hx hc hrow hl hd) rfl
  | rel b o g hi' hb hrow hl hd => exact pure_mono hH (.rel b o g hi' hb hrow hl hd) rfl
  | agg => simp [SV.in0] at hi
  | tup => simp [SV.in0] at hi
  | clo vs hl hd =>
    refine .clo vs hl (fun i s v hs hv => ?_)
    have hc := List.all_eq_true.1 hi s (List.mem_of_getElem? hs)
    have hD := hd i s v hs hv
    cases hD with
    | own h => exact .own (c (by simpa using hc) h)
    | osl h => simp at hc
    | oel h => simp at hc
    | agg => simp at hc
    | tup => simp at hc
    | clo us hl' hd' => exact pure_mono hH (.clo us hl' hd') (by simpa [SV.pure] using hc)
    | int => exact .int
    | bool => exact .bool
    | con => exact .con
    | any => exact .any
    | sl a b o m g hm hx hc' hrow hl hd => exact pure_mono hH (.sl a b o m g hm hx hc' hrow hl hd) rfl
    | rel b o g hi' hb hrow hl hd => exact pure_mono hH (.rel b o g hi' hb hrow hl hd) rfl
  | any => exact .any

theorem in1_sound (hH : ∀ b, H' b → H b) {s : SV} {v : Value} (h : D w H μ s v) (hi : s.in1 n = true) : D w H' (cut n μ) s v := by
  unfold SV.in1 at hi
  split at hi
  · cases h with
    | agg vs hl hd => exact .agg vs hl (fun i s v hs hv => in0_sound hH (hd i s v hs hv) (List.all_eq_true.1 hi s (List.mem_of_getElem? hs)))
  · exact in0_sound hH h hi

theorem in2_sound (hH : ∀ b, H' b → H b) {s : SV} {v : Value} (h : D w H μ s v) (hi : s.in2 n = true) : D w H' (cut n μ) s v := by
  unfold SV.in2 at hi
  split at hi
  · cases h with
    | tup vs hl hd => exact .tup vs hl (fun i s v hs hv => in1_sound hH (hd i s v hs hv) (List.all_eq_true.1 hi s (List.mem_of_getElem? hs)))
  · exact in1_sound hH h hi
end

def Blk.le (n : Nat) : Blk → Blk → Prop
  | .cells T cs, .cells T' cs' => (if T = T' ∧ cs'.all (SV.in0 n) = true then True else False) ∧ le0L cs cs'
  | .row T sz k f c, .row T' sz' k' f' c' => (if T = T' ∧ sz = sz' then True else False) ∧ k = k' ∧ capLe c c' ∧ ∀ i, i < k → f i = f' i
  | _, _ => False
def ownLe (n : Nat) : List Blk → List Blk → Prop
  | _, [] => True
  | b :: r, b' :: r' => b.le n b' ∧ ownLe n r r'
  | [], _ :: _ => False
def envLe (n : Nat) (ρ : List Entry) : List Entry → Prop
  | [] => True
  | e :: r => (match e.guard, look e.slot ρ with
    | none, some x => match x.guard with
      | none => (if e.sv.in2 n then True else False) ∧ x.sv.le2 e.sv
      | some _ => False
    | _, _ => False) ∧ envLe n ρ r

/-- The state st' tells no more than st. -/
def Match (st st' : St) : Prop := ownLe st'.own.length st.own st'.own ∧ envLe st'.own.length st.ρ st'.ρ

section
variable {w : World} {H : Nat → Prop} {μ : Mu}
theorem ownLe_get {n : Nat} : ∀ {l l' : List Blk}, ownLe n l l' → ∀ (k : Nat) (b' : Blk), l'[k]? = some b' → ∃ b, l[k]? = some b ∧ b.le n b'
  | _, [], _ => fun k b h => by simp at h
  | b :: r, b' :: r', h => fun k x hx => by
    match k with
    | 0 => simp at hx; subst hx; exact ⟨b, rfl, h.1⟩
    | k + 1 => simpa using ownLe_get h.2 k x (by simpa using hx)
  | [], _ :: _, h => h.elim

theorem Blk.le_sound {n : Nat} {H' : Nat → Prop} (hH : ∀ b, H' b → H b) {x : Value} {bl bl' : Blk} (h : BlkOK w H μ x bl) (hle : bl.le n bl') : BlkOK w H' (cut n μ) x bl' := by
  unfold Blk.le at hle
  split at hle
  · obtain ⟨hc, hl⟩ := hle
    split at hc
    rotate_left
    · exact hc.elim
    rename_i hc'
    obtain ⟨rfl, hin⟩ := hc'
    obtain ⟨h1, h2⟩ := le0L_get hl
    obtain ⟨b, vs, rfl, hh, hvl, hone, hd⟩ := h
    refine ⟨b, vs, rfl, hh, by omega, hone, fun i s v hs hv => ?_⟩
    obtain ⟨t, ht, hts⟩ := h2 i s hs
    exact in0_sound hH (le0_sound (hd i t v ht hv) hts) (List.all_eq_true.1 hin s (List.mem_of_getElem? hs))
  · obtain ⟨hc, rfl, hcap, hf⟩ := hle
    split at hc
    rotate_left
    · exact hc.elim
    rename_i hc'
    obtain ⟨rfl, rfl⟩ := hc'
    obtain ⟨a, m, rfl, hn, hm, hcc, hl, hrest⟩ := h
    refine ⟨a, m, rfl, hn, hm, capLe_sound hcap hcc, fun i hi => by rw [← hf i hi]; exact hl i hi, ?_⟩
    rcases hrest with h | ⟨b, o, vs, rfl, hh, ho, h1, hd⟩
    · exact .inl h
    · refine .inr ⟨b, o, vs, rfl, hh, ho, h1, fun i j s v hi hs hv => ?_⟩
      rw [← hf i hi] at hs
      exact pure_mono hH (hd i j s v hi hs hv) (List.all_eq_true.1 (hl i hi).2 s (List.mem_of_getElem? hs))
  · exact hle.elim

theorem envLe_get {n : Nat} {ρ : List Entry} : ∀ {ρ' : List Entry}, envLe n ρ ρ' → ∀ (t : Nat) (e : Entry), look t ρ' = some e → e.guard = none ∧ ∃ x, look t ρ = some x ∧ x.guard = none ∧ e.sv.in2 n = true ∧ x.sv.le2 e.sv
  | [], _ => fun t e h => by simp [look] at h
  | y :: r, h => fun t e he => by
    simp only [look] at he
    split at he
    · rename_i hs
      cases he
      have h1 := h.1
      split at h1
      · rename_i x hg hx
        split at h1
        · rename_i hxg
          obtain ⟨hin, hle⟩ := h1
          split at hin
          · rename_i hin'
            exact ⟨hg, x, by rw [← hs]; exact hx, hxg, hin', hle⟩
          · exact hin.elim
        · exact h1.elim
      · exact h1.elim
    · exact envLe_get h.2 t e he

/-- The row that was handed in is still spoken of. -/
def ancB (E : Env) (st : St) : Bool := match E.anc with
  | none => true
  | some _ => !st.own.isEmpty

theorem match_sound {E : Env} {B0 : Nat} {X A : Nat → Prop} {w0 : World} {nt : Nat} {st st' : St} {a : Act} (h : SD E B0 X A w0 nt st a w μ) (hm : Match st st') (hanc : ancB E st' = true) : ∃ μ', SD E B0 X A w0 nt st' a w μ' := by
  obtain ⟨hown, henv⟩ := hm
  have hH : ∀ b, held A (cut st'.own.length μ) b → held A μ b := by
    intro b hb
    rcases hb with hb | ⟨k, x, hk, hx⟩
    · exact .inl hb
    · refine .inr ⟨k, x, ?_, hx⟩
      unfold cut at hk
      split at hk
      · exact hk
      · cases hk
  have hcut : ∀ {k x}, cut st'.own.length μ k = some x → k < st'.own.length ∧ μ k = some x := by
    intro k x hk
    unfold cut at hk
    split at hk
    · exact ⟨‹_›, hk⟩
    · cases hk
  refine ⟨cut st'.own.length μ, ⟨fun k x hk => ?_, fun k k' x x' b hk hk' => h.own.inj k k' x x' b (hcut hk).2 (hcut hk').2, fun k x b hk => h.own.rng k x b (hcut hk).2, h.own.bnd⟩, h.fr, h.base,
    fun g s hg => ⟨(h.glo g s hg).1, pure_mono hH (h.glo g s hg).2 (h.glo g s hg).1⟩, h.dfr, h.size, fun t e he => ?_, fun k hk => by unfold cut; rw [if_neg (by omega)], fun x hx => by
      unfold ancB at hanc
      rw [hx] at hanc
      simp only at hanc
      have : 0 < st'.own.length := by
        cases hl : st'.own with
        | nil => rw [hl] at hanc; cases hanc
        | cons a l => simp
      unfold cut
      rw [if_pos this]
      exact h.anc x hx⟩
  · obtain ⟨hlt, hk⟩ := hcut hk
    obtain ⟨bl, e1, hb⟩ := h.own.blk k x hk
    obtain ⟨b, e2, hle⟩ := ownLe_get hown k _ (List.getElem?_eq_getElem hlt)
    rw [e1] at e2
    cases e2
    exact ⟨_, List.getElem?_eq_getElem hlt, Blk.le_sound hH hb hle⟩
  · obtain ⟨hg, x, hx, hxg, hin, hle⟩ := envLe_get henv t e he
    have := h.env t x hx
    unfold EntryOK at this ⊢
    rw [hxg] at this
    rw [hg]
    simp only at this ⊢
    rw [look_slot hx] at this
    rw [look_slot he]
    exact in2_sound hH (le2_sound this hle) hin
end

end Go.Proofs.YthfkpmobmnfgcaaDoor.V

/-
  Regions that draw their order, over symbolic states: what may come in any order, then stores, then the rest in order. Conditions: none.
-/
namespace Go.Proofs.YthfkpmobmnfgcaaDoor.V
open Go

/-- j is laid ahead of the operation o by an edge that binds. -/
def waits (o : Oper) (j : Nat) : Bool := o.after.toList.any fun e => Region.binds .any e && e.on == j

/-- The slots that a guard hangs on, and those that its own guard hangs on. -/
def guardNames (ops : Array Oper) : Nat → Option (Nat × Bool) → List Nat
  | 0, _ => []
  | _, none => []
  | n + 1, some (j, _) => match ops[j]? with
    | some o => match o.dst with
      | some d => d :: guardNames ops n o.guard
      | none => guardNames ops n o.guard
    | none => []
def namesOf (ops : Array Oper) (o : Oper) : List Nat := (o.op.operands.toList.filterMap fun x => match x with | .tmp t => some t | _ => none) ++ guardNames ops 6 o.guard

/-- 0: in any order; 1: a store; 2: what comes last, in the order of the text. -/
def kindStep (ks : List Nat) (o : Oper) : Nat :=
  if o.after.toList.any fun e => Region.binds .any e && ks.getD e.on 0 == 2 then 2 else match o.op with
  | .store _ _ _ => 1
  | .call { callee := .builtin .append, .. } => 2
  | .mapUpdate _ _ _ _ | .insert _ _ _ _ => 2
  | _ => 0
def kinds (ops : Array Oper) : List Nat := ops.toList.foldl (fun ks o => ks ++ [kindStep ks o]) []

def ofKind (ops : Array Oper) (k : Nat) : List (Oper × Nat) := ops.toList.zipIdx.filter fun x => (kinds ops).getD x.2 0 == k

def nodupB : List Nat → Bool
  | [] => true
  | x :: r => !r.contains x && nodupB r

/-- Which operations an operation waits for, through others too: a mask each. -/
def reach1 (o : Oper) (rs : List Nat) : Nat := o.after.toList.foldl (fun m e => if Region.binds .any e then m ||| 1 <<< e.on ||| rs.getD e.on 0 else m) 0
def reachGo : List Oper → List Nat → List Nat
  | [], rs => rs
  | o :: l, rs => reachGo l (rs ++ [reach1 o rs])
def reachM (ops : Array Oper) : List Nat := reachGo ops.toList []
inductive Reach (ops : Array Oper) : Nat → Nat → Prop
  | one {i j : Nat} {o : Oper} (h : ops[i]? = some o) (hw : waits o j = true) : Reach ops i j
  | more {i j k : Nat} {o : Oper} (h : ops[i]? = some o) (hw : waits o k = true) (hr : Reach ops k j) : Reach ops i j
theorem reach1_spec (l : List Edge) (rs : List Nat) : ∀ (m j : Nat), (l.foldl (fun m e => if Region.binds .any e then m ||| 1 <<< e.on ||| rs.getD e.on 0 else m) m).testBit j = true → m.testBit j = true ∨ ∃ e ∈ l, Region.binds .any e = true ∧ (e.on = j ∨ (rs.getD e.on 0).testBit j = true) := by
  induction l with
  | nil => intro m j h; exact .inl h
  | cons e l ih =>
    intro m j h
    simp only [List.foldl_cons] at h
    rcases ih _ j h with h | ⟨e', he', hb⟩
    · split at h
      · rename_i hb
        simp only [Nat.testBit_or, Bool.or_eq_true] at h
        rcases h with (h | h) | h
        · exact .inl h
        · refine .inr ⟨e, by simp, hb, .inl ?_⟩
          rw [Nat.testBit_shiftLeft] at h
          simp only [Bool.and_eq_true, decide_eq_true_eq] at h
          have := h.2
          match hk : j - e.on with
          | 0 => omega
          | n + 1 =>
            rw [hk, Nat.testBit_succ] at this
            simp at this
        · exact .inr ⟨e, by simp, hb, .inr h⟩
      · exact .inl h
    · exact .inr ⟨e', by simp [he'], hb⟩
theorem reachGo_spec (ops : Array Oper) : ∀ (l : List Oper) (rs : List Nat), (∀ k, l[k]? = ops[rs.length + k]?) → (∀ i j, i < rs.length → (rs.getD i 0).testBit j = true → Reach ops i j) → ∀ i j, ((reachGo l rs).getD i 0).testBit j = true → Reach ops i j := by
  intro l
  induction l with
  | nil =>
    intro rs _ h i j hj
    by_cases hi : i < rs.length
    · exact h i j hi hj
    · rw [reachGo, List.getD_eq_getElem?_getD, List.getElem?_eq_none (by omega)] at hj
      simp at hj
  | cons o l ih =>
    intro rs hl h
    refine ih _ (fun k => ?_) (fun i j hi hj => ?_)
    · have := hl (k + 1)
      simp only [List.getElem?_cons_succ] at this
      rw [this, List.length_append]
      congr 1
      simp only [List.length_cons, List.length_nil]
      omega
    · by_cases hi' : i < rs.length
      · rw [List.getD_eq_getElem?_getD, List.getElem?_append_left hi', ← List.getD_eq_getElem?_getD] at hj
        exact h i j hi' hj
      · have hi2 : i = rs.length := by simp at hi; omega
        subst hi2
        rw [List.getD_eq_getElem?_getD, List.getElem?_append_right (Nat.le_refl _)] at hj
        simp only [Nat.sub_self, List.getElem?_cons_zero, Option.getD_some] at hj
        have ho : ops[rs.length]? = some o := by
          have := hl 0
          simpa using this.symm
        rcases reach1_spec _ _ _ _ hj with h0 | ⟨e, he, hb, hc⟩
        · simp at h0
        · have hw : waits o e.on = true := by
            simp only [waits, List.any_eq_true, Bool.and_eq_true, beq_iff_eq]
            exact ⟨e, he, hb, rfl⟩
          rcases hc with rfl | hc
          · exact .one ho hw
          · by_cases hon : e.on < rs.length
            · exact .more ho hw (h _ _ hon hc)
            · rw [List.getD_eq_getElem?_getD, List.getElem?_eq_none (by omega)] at hc
              simp at hc
theorem reachM_spec {ops : Array Oper} {i j : Nat} (h : ((reachM ops).getD i 0).testBit j = true) : Reach ops i j :=
  reachGo_spec ops ops.toList [] (fun k => by simp) (fun i j hi => by simp at hi) i j h

/-- What the edges must say. -/
def drawOK (ops : Array Oper) : Bool :=
  let l := ops.toList.zipIdx
  let ks := kinds ops
  let rm := reachM ops
  l.all (fun x => x.1.after.toList.all fun e => !Region.binds .any e || decide (e.on < x.2)) &&
  nodupB (l.filterMap fun x => x.1.dst) &&
  l.all (fun x => ks.getD x.2 0 == 2 || (namesOf ops x.1).all fun t => l.all fun y => y.2 == x.2 || y.1.dst != some t || (if y.2 < x.2 && ks.getD y.2 0 == 0 then (rm.getD x.2 0).testBit y.2 else (rm.getD y.2 0).testBit x.2)) &&
  l.all (fun x => ks.getD x.2 0 != 1 || (x.1.dst == none && x.1.guard.isNone && l.all fun y => !(decide (y.2 < x.2) && ks.getD y.2 0 == 1) || waits x.1 y.2)) &&
  l.all (fun x => match x.1.guard with | some (j, _) => waits x.1 j | none => true) &&
  l.all (fun x => ks.getD x.2 0 != 2 || l.all fun y => y.2 == x.2 || (ks.getD y.2 0 == 2 && decide (x.2 < y.2)) || (rm.getD x.2 0).testBit y.2)

def restrictE (ns : List Nat) (ρ : List Entry) : List Entry := ρ.filter fun e => ns.contains e.slot

/-- One operation that may come in any order: its result, and its new block. -/
def stepP (E : Env) (nt : Nat) (ops : Array Oper) (ρ : List Entry) (own : List Blk) (o : Oper) : Option (Prop × Option Entry × Option Blk) :=
  if !dstOK nt o.dst then none else
  match o.guard with
  | some (j, p) => match o.dst, (ops[j]?).bind (·.dst) with
    | some d, some g => if g < nt ∧ g ≠ d then (guardCond ρ 5 g p).bind fun c => (evSoft E ⟨ρ, own⟩ (some (g, p)) o.op).map fun r => (c → r.1, some ⟨d, some (g, p), r.2⟩, none) else none
    | _, _ => none
  | none => match o.op with
    | .store _ _ _ => none
    | .alloc _ | .box _ _ | .buildSlice _ _ _ | .makeSlice _ _ _ => (evNew E.P own (opd E ρ none) o.op).map fun r => (r.1, o.dst.map (fun d => ⟨d, none, r.2.1⟩), some r.2.2)
    | op => (evSoft E ⟨ρ, own⟩ none op).map fun r => (r.1, o.dst.map (fun d => ⟨d, none, r.2⟩), none)

def EntryOK' (w : World) (H : Nat → Prop) (μ : Mu) (tmps : Array Value) : Option Entry → Prop
  | none => True
  | some e => EntryOK w H μ tmps e

section
variable {E : Env} {B0 : Nat} {X A : Nat → Prop} {nt : Nat} {a : Act} {w : World} {μ : Mu}

theorem stepP_sound (hE : EnvOK E) (hC : CSound E) {ρ : List Entry} {own ownN : List Blk} (hO : Own B0 X A w μ ownN) (hB : B0 ≤ w.heap.size) (hsub : ∀ (k : Nat) (bl : Blk), own[k]? = some bl → ownN[k]? = some bl) (hglo : ∀ g s, E.glob g = some s → s.pure = true ∧ D w (held A μ) μ s (.pointer (some ⟨g, 0, none⟩)))
    (henv : EnvD w (held A μ) μ a.tmps ρ) (hsz : a.tmps.size = nt) {ops : Array Oper} {o : Oper} {pre : Prop} {out : Option Entry} {bl : Option Blk} (he : stepP E nt ops ρ own o = some (pre, out, bl)) (hp : pre)
    (hbl : ∀ b, bl = some b → μ own.length = none ∧ ownN[own.length]? = some b) {K : Act → World → Prop} {Q : Exit → Act → World → Prop}
    (hK : ∀ v w' μ', After B0 X A w w' μ μ' ownN → (∀ j, (bl.isSome = true → j ≠ own.length) → μ' j = μ j) → EntryOK' w' (held A μ') μ' (a.put o.dst v).tmps out → K (a.put o.dst v) w') :
    (out.map (·.slot) = o.dst ∨ out = none ∧ o.dst = none) ∧ if Region.wanted o (yielded ops a.tmps) then o.wp E.P a w K Q else K (a.put o.dst undef) w := by
  unfold stepP at he
  split at he
  · cases he
  rename_i hdst
  have hd : dstOK nt o.dst = true := by simpa using hdst
  have calls : ∀ {w' : World}, Fr w.heap.size (fun _ => False) w w' → After B0 X A w w' μ μ ownN := fun hfr =>
    ⟨hO.calls hfr, ⟨hfr.os, hfr.tape, hfr.output, hfr.drawn, hfr.size, fun i hi _ => hfr.block i (Nat.lt_of_lt_of_le hi hB) (fun h => h)⟩, hfr.keeps⟩
  split at he
  · rename_i j p hgd
    split at he
    rotate_left
    · cases he
    rename_i d g hod hgj
    split at he
    rotate_left
    · cases he
    rename_i hlt
    obtain ⟨hlt, hne⟩ := hlt
    simp only [Option.bind_eq_some_iff, Option.map_eq_some_iff, Prod.mk.injEq] at he
    obtain ⟨c, hc, ⟨p0, s⟩, hs, rfl, rfl, rfl⟩ := he
    have hdlt : d < a.tmps.size := by rw [hsz]; simpa [dstOK, hod] using hd
    have hw := wanted_iff (a := a) hgd hgj (by rw [hsz]; exact hlt)
    refine ⟨.inl (by simp [hod]), ?_⟩
    split
    · rename_i hwant
      have hb := hw.1 hwant
      have hcc := guardCond_sound henv 5 g p c hc hb
      refine soft_sound' hE hC hO hsub hglo henv (g := some (g, p)) (fun q b e => by cases e; exact hb) hs (hp hcc) (fun v w' hv hfr => hK v w' μ (calls hfr) (fun _ _ => rfl) ?_)
      rw [hod]
      unfold EntryOK' EntryOK Act.put
      simp only
      rw [getD_set hdlt, getD_set hdlt, if_pos rfl, if_neg hne]
      exact ⟨fun _ => hv, fun hn => absurd hb hn⟩
    · rename_i hwant
      have hb : ¬ a.tmps.getD g undef = .bool p := fun hb => hwant (hw.2 hb)
      refine hK undef w μ (calls (Fr.refl _ _ _)) (fun _ _ => rfl) ?_
      rw [hod]
      unfold EntryOK' EntryOK Act.put
      simp only
      rw [getD_set hdlt, getD_set hdlt, if_pos rfl, if_neg hne]
      exact ⟨fun hh => absurd hh hb, fun _ => rfl⟩
  · rename_i hgd
    rw [if_pos (by simp [Region.wanted, hgd])]
    have put : ∀ {w' : World} {μ' : Mu} {s : SV} {v : Value}, D w' (held A μ') μ' s v → EntryOK' w' (held A μ') μ' (a.put o.dst v).tmps (o.dst.map fun d => ⟨d, none, s⟩) := by
      intro w' μ' s v hv
      cases hod : o.dst with
      | none => exact trivial
      | some d =>
        have hdlt : d < a.tmps.size := by rw [hsz]; simpa [dstOK, hod] using hd
        simp only [Option.map_some]
        unfold EntryOK' EntryOK Act.put
        simp only
        rw [getD_set hdlt, if_pos rfl]
        exact hv
    have slot : ∀ s : SV, ((o.dst.map fun d => (⟨d, none, s⟩ : Entry)).map (·.slot) = o.dst ∨ (o.dst.map fun d => (⟨d, none, s⟩ : Entry)) = none ∧ o.dst = none) := by
      intro s; cases o.dst <;> simp
    split at he
    · cases he
    iterate 4
      · simp only [Option.map_eq_some_iff, Prod.mk.injEq] at he
        obtain ⟨⟨p0, s, b⟩, hn, rfl, rfl, rfl⟩ := he
        obtain ⟨h1, h2⟩ := hbl b rfl
        obtain ⟨r, w', μ', hr, ha, hμ, hv⟩ := new_sound hO hB h1 (opd_sound (fun n s hn => (hglo n s hn).2) henv (fun q b e => by cases e)) hn hp h2
        refine ⟨slot s, ?_⟩
        unfold Oper.wp
        rw [hr]
        exact hK r w' μ' ha (fun j hj => hμ j (hj rfl)) (put hv)
    · simp only [Option.map_eq_some_iff, Prod.mk.injEq] at he
      obtain ⟨⟨p0, s⟩, hs, rfl, rfl, rfl⟩ := he
      refine ⟨slot s, ?_⟩
      exact soft_sound' hE hC hO hsub hglo henv (g := none) (fun q b e => by cases e) hs hp (fun v w' hv hfr => hK v w' μ (calls hfr) (fun _ _ => rfl) (put hv))
end

end Go.Proofs.YthfkpmobmnfgcaaDoor.V

/-
  Regions that draw their order, over symbolic states: every order comes to what one order comes to. Conditions: none.
-/
namespace Go.Proofs.YthfkpmobmnfgcaaDoor.V
open Go

structure PI where
  o : Oper
  i : Nat
  own : List Blk
  out : Option Entry
  al : Option Blk

def forgetL (ds : List Nat) (e : Entry) : Entry := match e.guard with
  | some (g, _) => if ds.contains g then { e with guard := none, sv := .any } else e
  | none => e

def consO (out : Option Entry) (es : List Entry) : List Entry := match out with
  | some e => e :: es
  | none => es

def fO (o : Option Entry) (K : Option Entry → Prop) : Prop := match o with
  | none => K none
  | some ⟨n, g, s⟩ => fG g fun g => s.f2 fun s => K (some ⟨n, g, s⟩)
theorem fO_eq (o : Option Entry) (K : Option Entry → Prop) : fO o K = K o := by
  match o with
  | none => rfl
  | some ⟨n, g, s⟩ => simp only [fO, fG_eq, SV.f2_eq]

def parK (E : Env) (nt : Nat) (ops : Array Oper) (ρ0 : List Entry) (K : List PI → List Entry → List Blk → Prop) : List (Oper × Nat) → List PI → List Entry → List Blk → Prop
  | [], done, es, own => K done es own
  | (o, i) :: r, done, es, own => match stepP E nt ops (restrictE (namesOf ops o) (es ++ ρ0)) own o with
    | some (p, out, al) => Ask p ∧ fO out fun out => fB (own ++ al.toList) fun own' => parK E nt ops ρ0 K r (⟨o, i, own, out, al⟩ :: done) (consO out es) own'
    | none => False

def esBefore (ps : List PI) (i : Nat) : List Entry := (ps.filter fun q => decide (q.i < i)).filterMap (·.out)

def lateK (E : Env) (nt : Nat) (ops : Array Oper) (ρ0 : List Entry) (ps : List PI) (sd : List Oper) (own : List Blk) : List PI → Prop
  | [] => True
  | q :: r => if sd.any (fun s => waits s q.i) then lateK E nt ops ρ0 ps sd own r else match stepP E nt ops (restrictE (namesOf ops q.o) (esBefore ps q.i ++ ρ0)) own q.o with
    | some (p, out, none) => Ask p ∧ Late out q.out ∧ lateK E nt ops ρ0 ps sd own r
    | _ => False

def evStoreO (E : Env) (ρ : List Entry) (own : List Blk) (o : Oper) : Option (Prop × List Blk) := match o.op with
  | .store T p x => (opd E ρ none p).bind fun sp => (opd E ρ none x).bind fun sx => evStore E.P own T sp sx
  | _ => none

def storesK (E : Env) (nt : Nat) (ops : Array Oper) (ρ0 : List Entry) (ps : List PI) (K : List Blk → Prop) : List (Oper × Nat) → List Oper → List Blk → Prop
  | [], _, own => K own
  | (o, i) :: r, sd, own => match evStoreO E (restrictE (namesOf ops o) (esBefore ps i ++ ρ0)) own o with
    | some (p, own') => Ask p ∧ fB own' fun own' => lateK E nt ops ρ0 ps (o :: sd) own' ps ∧ storesK E nt ops ρ0 ps K r (o :: sd) own'
    | none => False

def drawK (E : Env) (nt : Nat) (ops : Array Oper) (K : St → Prop) (st : St) : Prop :=
  let ρ0 := st.ρ.map (forgetL (ops.toList.filterMap (·.dst)))
  fE ρ0 fun ρ0 => parK E nt ops ρ0 (fun ps es own => storesK E nt ops ρ0 ps (fun own => seqK E nt ops K ((ofKind ops 2).map (·.1)) ⟨es ++ ρ0, own⟩) (ofKind ops 1) [] own) (ofKind ops 0) [] [] st.own

/-- The entries that are known ahead of the operation i. -/
def EnvFrom (ps : List PI) (ρ0 : List Entry) (i : Nat) (ρ : List Entry) : Prop :=
  ∀ t e, look t ρ = some e → (∃ q ∈ ps, q.i < i ∧ q.out = some e) ∨ (look t ρ0 = some e ∧ ∀ q ∈ ps, q.i < i → ∀ e', q.out = some e' → e'.slot ≠ t)

theorem look_app {t : Nat} : ∀ (l r : List Entry), look t (l ++ r) = match look t l with | some e => some e | none => look t r
  | [], r => rfl
  | x :: l, r => by
    simp only [List.cons_append, look]
    split
    · rfl
    · exact look_app l r

theorem look_none {t : Nat} : ∀ {l : List Entry}, look t l = none ↔ ∀ e ∈ l, e.slot ≠ t
  | [] => by simp [look]
  | x :: l => by
    simp only [look, List.mem_cons, forall_eq_or_imp]
    split
    · rename_i h; simp [h]
    · rename_i h; rw [look_none]; simp [h]

theorem look_mem {t : Nat} {e : Entry} : ∀ {l : List Entry}, look t l = some e → e ∈ l
  | [], h => by simp [look] at h
  | x :: l, h => by
    simp only [look] at h
    split at h
    · cases h; simp
    · exact List.mem_cons_of_mem _ (look_mem h)

theorem envFrom_app {ps : List PI} {ρ0 es : List Entry} {i : Nat} (h1 : ∀ e ∈ es, ∃ q ∈ ps, q.i < i ∧ q.out = some e) (h2 : ∀ q ∈ ps, q.i < i → ∀ e, q.out = some e → e ∈ es) : EnvFrom ps ρ0 i (es ++ ρ0) := by
  intro t e he
  rw [look_app] at he
  split at he
  · rename_i x hx
    cases he
    exact .inl (h1 _ (look_mem hx))
  · rename_i hn
    exact .inr ⟨he, fun q hq hi e' he' => look_none.1 hn e' (h2 q hq hi e' he')⟩

theorem envFrom_before {ps : List PI} {ρ0 : List Entry} {i : Nat} : EnvFrom ps ρ0 i (esBefore ps i ++ ρ0) := by
  refine envFrom_app (fun e he => ?_) (fun q hq hi e he => ?_)
  · simp only [esBefore, List.mem_filterMap, List.mem_filter, decide_eq_true_eq] at he
    obtain ⟨q, ⟨hq, hi⟩, ho⟩ := he
    exact ⟨q, hq, hi, ho⟩
  · simp only [esBefore, List.mem_filterMap, List.mem_filter, decide_eq_true_eq]
    exact ⟨q, ⟨hq, hi⟩, he⟩

/-- What the walk over the operations in any order has shown. -/
structure ParOK (E : Env) (nt : Nat) (ops : Array Oper) (ρ0 : List Entry) (base own0 : List Blk) (ps : List PI) : Prop where
  step : ∀ q ∈ ps, ∃ ρ p, EnvFrom ps ρ0 q.i ρ ∧ stepP E nt ops (restrictE (namesOf ops q.o) ρ) q.own q.o = some (p, q.out, q.al) ∧ p
  sub : ∀ q ∈ ps, (∀ (k : Nat) (bl : Blk), q.own[k]? = some bl → own0[k]? = some bl) ∧ ∀ b, q.al = some b → own0[q.own.length]? = some b
  low : ∀ q ∈ ps, base.length ≤ q.own.length
  one : ∀ q ∈ ps, ∀ q' ∈ ps, q.al.isSome = true → q'.al.isSome = true → q.own.length = q'.own.length → q.i = q'.i
  base : ∀ (k : Nat) (bl : Blk), base[k]? = some bl → own0[k]? = some bl
  top : ∀ q ∈ ps, q.al.isSome = true → q.own.length < own0.length

theorem parK_ok {E : Env} {nt : Nat} {ops : Array Oper} {ρ0 : List Entry} {base : List Blk} {K : List PI → List Entry → List Blk → Prop} : ∀ (l : List (Oper × Nat)) (done : List PI) (es : List Entry) (own : List Blk), parK E nt ops ρ0 K l done es own →
    ParOK E nt ops ρ0 base own done → (∀ e ∈ es, ∃ q ∈ done, q.out = some e) → (∀ q ∈ done, ∀ e, q.out = some e → e ∈ es) → (∀ q ∈ done, ∀ x ∈ l, q.i < x.2) → l.Pairwise (fun x y => x.2 < y.2) → base.length ≤ own.length → (∀ q ∈ done, ∀ q' ∈ done, q.i = q'.i → q = q') →
    ∃ ps es' own0, ParOK E nt ops ρ0 base own0 ps ∧ (∀ e, e ∈ es' ↔ ∃ q ∈ ps, q.out = some e) ∧ K ps es' own0 ∧ (∀ q, q ∈ ps → q ∈ done ∨ (q.o, q.i) ∈ l) ∧ (∀ x ∈ l, ∃ q ∈ ps, q.o = x.1 ∧ q.i = x.2) ∧ (∀ q ∈ done, q ∈ ps) ∧ base.length ≤ own0.length ∧ ∀ q ∈ ps, ∀ q' ∈ ps, q.i = q'.i → q = q' := by
  intro l
  induction l with
  | nil =>
    intro done es own h hP h1 h2 _ _ hb hu
    exact ⟨done, es, own, hP, fun e => ⟨h1 e, fun ⟨q, hq, ho⟩ => h2 q hq e ho⟩, h, fun q hq => .inl hq, fun x hx => by simp at hx, fun q hq => hq, hb, hu⟩
  | cons x l ih =>
    intro done es own h hP h1 h2 h3 h4 hb hu
    obtain ⟨o, i⟩ := x
    simp only [parK] at h
    split at h
    rotate_left
    · exact h.elim
    rename_i p out al hs
    rw [fO_eq, fB_eq] at h
    obtain ⟨hp, h⟩ := h
    replace hp := hp.out
    rw [List.pairwise_cons] at h4
    have hlt : ∀ q ∈ done, q.i < i := fun q hq => h3 q hq (o, i) (by simp)
    have hmono : ∀ q ∈ done, ∀ ρ, EnvFrom done ρ0 q.i ρ → EnvFrom (⟨o, i, own, out, al⟩ :: done) ρ0 q.i ρ := by
      intro q hq ρ hρ t e he
      rcases hρ t e he with ⟨q', hq', hi', ho'⟩ | ⟨hl, hn⟩
      · exact .inl ⟨q', List.mem_cons_of_mem _ hq', hi', ho'⟩
      · refine .inr ⟨hl, fun q' hq' hi' e' ho' => ?_⟩
        rcases List.mem_cons.1 hq' with rfl | hq'
        · have := hlt q hq; simp only at hi'; omega
        · exact hn q' hq' hi' e' ho'
    have hgrow : ∀ (k : Nat) (bl : Blk), own[k]? = some bl → (own ++ al.toList)[k]? = some bl := fun k bl hk => by
      rw [List.getElem?_append_left (List.getElem?_eq_some_iff.1 hk).1]; exact hk
    have hnew : EnvFrom (⟨o, i, own, out, al⟩ :: done) ρ0 i (es ++ ρ0) := by
      refine envFrom_app (fun e he => ?_) (fun q hq hi e he => ?_)
      · obtain ⟨q, hq, ho⟩ := h1 e he
        exact ⟨q, List.mem_cons_of_mem _ hq, hlt q hq, ho⟩
      · rcases List.mem_cons.1 hq with rfl | hq
        · simp only at hi; omega
        · exact h2 q hq e he
    have hPn : ParOK E nt ops ρ0 base (own ++ al.toList) (⟨o, i, own, out, al⟩ :: done) := by
      refine ⟨fun q hq => ?_, fun q hq => ?_, fun q hq => ?_, fun q hq q' hq' ha ha' he => ?_, fun k bl hk => hgrow k bl (hP.base k bl hk), fun q hq ha => ?_⟩
      · rcases List.mem_cons.1 hq with rfl | hq
        · exact ⟨es ++ ρ0, p, hnew, hs, hp⟩
        · obtain ⟨ρ, p', e1, e2, e3⟩ := hP.step q hq
          exact ⟨ρ, p', hmono q hq ρ e1, e2, e3⟩
      · rcases List.mem_cons.1 hq with rfl | hq
        · refine ⟨hgrow, fun b hb => ?_⟩
          simp only at hb
          subst hb
          simp
        · obtain ⟨s1, s2⟩ := hP.sub q hq
          exact ⟨fun k bl hk => hgrow k bl (s1 k bl hk), fun b hb => hgrow _ _ (s2 b hb)⟩
      · rcases List.mem_cons.1 hq with rfl | hq
        · exact hb
        · exact hP.low q hq
      · rcases List.mem_cons.1 hq with rfl | hq <;> rcases List.mem_cons.1 hq' with rfl | hq'
        · rfl
        · have := hP.top q' hq' ha'; simp only at he; omega
        · have := hP.top q hq ha; simp only at he; omega
        · exact hP.one q hq q' hq' ha ha' he
      · rcases List.mem_cons.1 hq with rfl | hq
        · simp only at ha ⊢
          cases al with
          | none => simp at ha
          | some b => simp
        · have := hP.top q hq ha
          rw [List.length_append]; omega
    have k1 : ∀ e ∈ consO out es, ∃ q ∈ (⟨o, i, own, out, al⟩ : PI) :: done, q.out = some e := by
      intro e he
      unfold consO at he
      split at he
      · rename_i e0
        rcases List.mem_cons.1 he with rfl | he
        · exact ⟨_, List.mem_cons_self, rfl⟩
        · obtain ⟨q, hq, ho⟩ := h1 e he
          exact ⟨q, List.mem_cons_of_mem _ hq, ho⟩
      · obtain ⟨q, hq, ho⟩ := h1 e he
        exact ⟨q, List.mem_cons_of_mem _ hq, ho⟩
    have k2 : ∀ q ∈ (⟨o, i, own, out, al⟩ : PI) :: done, ∀ e, q.out = some e → e ∈ consO out es := by
      intro q hq e he
      unfold consO
      rcases List.mem_cons.1 hq with rfl | hq
      · simp only at he
        subst he
        simp
      · have := h2 q hq e he
        split
        · exact List.mem_cons_of_mem _ this
        · exact this
    have k3 : ∀ q ∈ (⟨o, i, own, out, al⟩ : PI) :: done, ∀ x ∈ l, q.i < x.2 := by
      intro q hq x hx
      rcases List.mem_cons.1 hq with rfl | hq
      · exact h4.1 x hx
      · exact h3 q hq x (List.mem_cons_of_mem _ hx)
    have k4 : ∀ q ∈ (⟨o, i, own, out, al⟩ : PI) :: done, ∀ q' ∈ (⟨o, i, own, out, al⟩ : PI) :: done, q.i = q'.i → q = q' := by
      intro q hq q' hq' e
      rcases List.mem_cons.1 hq with e1 | hq1 <;> rcases List.mem_cons.1 hq' with e2 | hq2
      · rw [e1, e2]
      · rw [e1] at e; have := hlt q' hq2; simp only at e; omega
      · rw [e2] at e; have := hlt q hq1; simp only at e; omega
      · exact hu q hq1 q' hq2 e
    obtain ⟨ps, es', own0, r1, r2, r3, r4, r5, r6, r7, r8⟩ := ih (⟨o, i, own, out, al⟩ :: done) (consO out es) (own ++ al.toList) h hPn k1 k2 k3 h4.2 (by rw [List.length_append]; omega) k4
    refine ⟨ps, es', own0, r1, r2, r3, fun q hq => ?_, fun x hx => ?_, fun q hq => r6 q (List.mem_cons_of_mem _ hq), r7, r8⟩
    · rcases r4 q hq with hd | hl
      · rcases List.mem_cons.1 hd with rfl | hd
        · exact .inr List.mem_cons_self
        · exact .inl hd
      · exact .inr (List.mem_cons_of_mem _ hl)
    · rcases List.mem_cons.1 hx with rfl | hx
      · exact ⟨⟨o, i, own, out, al⟩, r6 _ List.mem_cons_self, rfl, rfl⟩
      · exact r5 x hx

end Go.Proofs.YthfkpmobmnfgcaaDoor.V

/-
  Regions that draw their order, over symbolic states: the walk over the orders. Conditions: none.
-/
namespace Go.Proofs.YthfkpmobmnfgcaaDoor.V
open Go

structure Draws (ops : Array Oper) : Prop where
  lt : ∀ (i : Nat) (o : Oper) (j : Nat), ops[i]? = some o → waits o j = true → j < i
  uniq : ∀ (i : Nat) (o : Oper) (j : Nat) (o' : Oper) (d : Nat), ops[i]? = some o → ops[j]? = some o' → o.dst = some d → o'.dst = some d → i = j
  names : ∀ (i : Nat) (o : Oper) (t j : Nat) (o' : Oper), ops[i]? = some o → (kinds ops).getD i 0 ≠ 2 → t ∈ namesOf ops o → ops[j]? = some o' → j ≠ i → o'.dst = some t → if j < i ∧ (kinds ops).getD j 0 = 0 then Reach ops i j else Reach ops j i
  store : ∀ (i : Nat) (o : Oper), ops[i]? = some o → (kinds ops).getD i 0 = 1 → o.dst = none ∧ o.guard = none ∧ ∀ (j : Nat) (o' : Oper), ops[j]? = some o' → j < i → (kinds ops).getD j 0 = 1 → waits o j = true
  guard : ∀ (i : Nat) (o : Oper) (j : Nat) (p : Bool), ops[i]? = some o → o.guard = some (j, p) → waits o j = true
  last : ∀ (i : Nat) (o : Oper) (j : Nat) (o' : Oper), ops[i]? = some o → (kinds ops).getD i 0 = 2 → ops[j]? = some o' → j ≠ i → ¬ ((kinds ops).getD j 0 = 2 ∧ i < j) → Reach ops i j

theorem zip_mem {ops : Array Oper} {i : Nat} {o : Oper} (h : ops[i]? = some o) : (o, i) ∈ ops.toList.zipIdx := by
  rw [List.mk_mem_zipIdx_iff_getElem?]; simpa using h
theorem mem_zip {ops : Array Oper} {i : Nat} {o : Oper} (h : (o, i) ∈ ops.toList.zipIdx) : ops[i]? = some o := by
  rw [List.mk_mem_zipIdx_iff_getElem?] at h; simpa using h

theorem nodupB_spec : ∀ {l : List Nat}, nodupB l = true → l.Nodup
  | [], _ => List.nodup_nil
  | x :: r, h => by
    simp only [nodupB, Bool.and_eq_true, Bool.not_eq_true', List.contains_eq_mem, decide_eq_false_iff_not] at h
    exact List.nodup_cons.2 ⟨h.1, nodupB_spec h.2⟩

theorem uniq_of_nodup {l : List (Oper × Nat)} (hp : l.Pairwise (fun x y => x.2 ≠ y.2)) (h : (l.filterMap fun x => x.1.dst).Nodup) : ∀ x ∈ l, ∀ y ∈ l, ∀ d, x.1.dst = some d → y.1.dst = some d → x = y := by
  induction l with
  | nil => intro x hx; simp at hx
  | cons z l ih =>
    rw [List.pairwise_cons] at hp
    have hl : (l.filterMap fun x => x.1.dst).Nodup := by
      rw [List.filterMap_cons] at h
      split at h
      · exact h
      · exact (List.nodup_cons.1 h).2
    have hz : ∀ y ∈ l, ∀ d, z.1.dst = some d → y.1.dst = some d → False := by
      intro y hy d hd hd'
      rw [List.filterMap_cons, hd] at h
      exact (List.nodup_cons.1 h).1 (List.mem_filterMap.2 ⟨y, hy, hd'⟩)
    intro x hx y hy d hd hd'
    rcases List.mem_cons.1 hx with e1 | hx1 <;> rcases List.mem_cons.1 hy with e2 | hy1
    · rw [e1, e2]
    · rw [e1] at hd; exact (hz y hy1 d hd hd').elim
    · rw [e2] at hd'; exact (hz x hx1 d hd' hd).elim
    · exact ih hp.2 hl x hx1 y hy1 d hd hd'

theorem zip_pair (ops : Array Oper) : ops.toList.zipIdx.Pairwise (fun x y => x.2 < y.2) := by
  rw [List.pairwise_iff_getElem]
  intro i j hi hj hij
  simp only [List.getElem_zipIdx]
  omega

theorem draws_of {ops : Array Oper} (h : drawOK ops = true) : Draws ops := by
  unfold drawOK at h
  simp only [Bool.and_eq_true] at h
  obtain ⟨⟨⟨⟨⟨h1, h2⟩, h3⟩, h4⟩, h6⟩, h5⟩ := h
  rw [List.all_eq_true] at h1 h3 h4 h5 h6
  refine ⟨fun i o j hi hw => ?_, fun i o j o' d hi hj hd hd' => ?_, fun i o t j o' hi hk ht hj hne hd => ?_, fun i o hi hk => ?_, fun i o j p hi hg => ?_, fun i o j o' hi hk hj hne hno => ?_⟩
  · have := List.all_eq_true.1 (h1 _ (zip_mem hi))
    simp only [waits, List.any_eq_true, Bool.and_eq_true, beq_iff_eq] at hw
    obtain ⟨e, he, hb, rfl⟩ := hw
    have := this e he
    rw [hb] at this
    simpa using this
  · have := uniq_of_nodup ((zip_pair ops).imp fun h => Nat.ne_of_lt h) (nodupB_spec h2) _ (zip_mem hi) _ (zip_mem hj) d hd hd'
    exact congrArg Prod.snd this
  · have := h3 _ (zip_mem hi)
    simp only [Bool.or_eq_true, beq_iff_eq] at this
    rcases this with h | h
    · exact absurd h hk
    · have := List.all_eq_true.1 (List.all_eq_true.1 h t ht) _ (zip_mem hj)
      simp only [Bool.or_eq_true, beq_iff_eq, bne_iff_ne, ne_eq] at this
      rcases this with (h | h) | h
      · exact absurd h hne
      · exact absurd hd h
      · by_cases hc : j < i ∧ (kinds ops).getD j 0 = 0
        · rw [if_pos hc]
          rw [if_pos ⟨by simpa using hc.1, hc.2⟩] at h
          exact reachM_spec h
        · rw [if_neg hc]
          rw [if_neg (fun hh => hc ⟨by simpa using hh.1, hh.2⟩)] at h
          exact reachM_spec h
  · have := h4 _ (zip_mem hi)
    simp only [Bool.or_eq_true, bne_iff_ne, ne_eq, Bool.and_eq_true, beq_iff_eq, Option.isNone_iff_eq_none] at this
    rcases this with h | ⟨⟨h, hg⟩, hs⟩
    · exact absurd hk h
    · refine ⟨h, hg, fun j o' hj hlt hkj => ?_⟩
      have := List.all_eq_true.1 hs _ (zip_mem hj)
      rw [Bool.or_eq_true] at this
      rcases this with h | h
      · exfalso
        rw [decide_eq_true hlt, hkj] at h
        simp at h
      · exact h
  · have := h6 _ (zip_mem hi)
    simp only [hg] at this
    exact this
  · have := h5 _ (zip_mem hi)
    simp only [Bool.or_eq_true, bne_iff_ne, ne_eq] at this
    rcases this with h | h
    · exact absurd hk h
    · have := List.all_eq_true.1 h _ (zip_mem hj)
      simp only [Bool.or_eq_true, beq_iff_eq, Bool.and_eq_true, decide_eq_true_eq] at this
      rcases this with (h | h) | h
      · exact absurd h hne
      · exact absurd h hno
      · exact reachM_spec h

theorem ofKind_mem {ops : Array Oper} {k i : Nat} {o : Oper} : (o, i) ∈ ofKind ops k ↔ ops[i]? = some o ∧ (kinds ops).getD i 0 = k := by
  unfold ofKind
  rw [List.mem_filter]
  simp only [beq_iff_eq]
  exact ⟨fun ⟨h1, h2⟩ => ⟨mem_zip h1, h2⟩, fun ⟨h1, h2⟩ => ⟨zip_mem h1, h2⟩⟩
theorem ofKind_pair (ops : Array Oper) (k : Nat) : (ofKind ops k).Pairwise (fun x y => x.2 < y.2) := (zip_pair ops).filter _

theorem look_restrict {ns : List Nat} {t : Nat} {e : Entry} : ∀ {ρ : List Entry}, look t (restrictE ns ρ) = some e → t ∈ ns ∧ look t ρ = some e
  | [], h => by simp [restrictE, look] at h
  | x :: r, h => by
    simp only [restrictE, List.filter_cons] at h
    split at h
    · rename_i hc
      simp only [look] at h ⊢
      split at h
      · rename_i hs
        cases h
        exact ⟨by rw [← hs]; simpa using hc, by rw [if_pos hs]⟩
      · rename_i hs
        obtain ⟨h1, h2⟩ := look_restrict (ρ := r) h
        exact ⟨h1, by rw [if_neg hs]; exact h2⟩
    · rename_i hc
      obtain ⟨h1, h2⟩ := look_restrict (ρ := r) h
      refine ⟨h1, ?_⟩
      simp only [look]
      rw [if_neg (fun hs => by subst hs; exact hc (by simpa using h1))]
      exact h2

theorem stepP_slot {E : Env} {nt : Nat} {ops : Array Oper} {ρ : List Entry} {own : List Blk} {o : Oper} {p : Prop} {out : Option Entry} {al : Option Blk} (he : stepP E nt ops ρ own o = some (p, out, al)) :
    out.map (·.slot) = o.dst ∧ (∀ e, out = some e → ∀ g b, e.guard = some (g, b) → ∃ j p', o.guard = some (j, p') ∧ (ops[j]?).bind (·.dst) = some g) := by
  have slot : ∀ s : SV, (o.dst.map fun d => (⟨d, none, s⟩ : Entry)).map (·.slot) = o.dst := by intro s; cases o.dst <;> simp
  have noguard : ∀ s : SV, ∀ e, (o.dst.map fun d => (⟨d, none, s⟩ : Entry)) = some e → ∀ g b, e.guard = some (g, b) → ∃ j p', o.guard = some (j, p') ∧ (ops[j]?).bind (·.dst) = some g := by
    intro s e he g b hg
    rw [Option.map_eq_some_iff] at he
    obtain ⟨d, _, rfl⟩ := he
    cases hg
  unfold stepP at he
  split at he
  · cases he
  split at he
  · rename_i j p0 hgd
    split at he
    rotate_left
    · cases he
    rename_i d g hod hgj
    split at he
    rotate_left
    · cases he
    simp only [Option.bind_eq_some_iff, Option.map_eq_some_iff, Prod.mk.injEq] at he
    obtain ⟨c, hc, ⟨p1, s⟩, hs, rfl, rfl, rfl⟩ := he
    refine ⟨by simp [hod], fun e he g' b hg => ?_⟩
    cases he
    cases hg
    exact ⟨j, p0, hgd, hgj⟩
  · split at he
    · cases he
    iterate 4
      · simp only [Option.map_eq_some_iff, Prod.mk.injEq] at he
        obtain ⟨⟨p0, s, b⟩, hn, rfl, rfl, rfl⟩ := he
        exact ⟨slot s, noguard s⟩
    · simp only [Option.map_eq_some_iff, Prod.mk.injEq] at he
      obtain ⟨⟨p0, s⟩, hs, rfl, rfl, rfl⟩ := he
      exact ⟨slot s, noguard s⟩

theorem forgetL_slot (ds : List Nat) (e : Entry) : (forgetL ds e).slot = e.slot := by
  unfold forgetL; split <;> (try split) <;> rfl

theorem lateK_mem {E : Env} {nt : Nat} {ops : Array Oper} {ρ0 : List Entry} {ps : List PI} {sd : List Oper} {own : List Blk} : ∀ {l : List PI}, lateK E nt ops ρ0 ps sd own l → ∀ q ∈ l, (∃ s ∈ sd, waits s q.i = true) ∨
    ∃ p, stepP E nt ops (restrictE (namesOf ops q.o) (esBefore ps q.i ++ ρ0)) own q.o = some (p, q.out, none) ∧ p
  | [], _, q, hq => by simp at hq
  | x :: r, h, q, hq => by
    simp only [lateK] at h
    split at h
    · rename_i hany
      rcases List.mem_cons.1 hq with rfl | hq
      · exact .inl (by simpa using hany)
      · exact lateK_mem h q hq
    · split at h
      · rename_i p out hs
        rcases List.mem_cons.1 hq with rfl | hq
        · exact .inr ⟨p, by rw [← h.2.1.out]; exact hs, h.1.out⟩
        · exact lateK_mem h.2.2 q hq
      · exact h.elim

theorem evStore_length {P : Program} {own own' : List Blk} {T : TypeId} {p x : SV} {pre : Prop} (hst : evStore P own T p x = some (pre, own')) : own'.length = own.length := by
  unfold evStore at hst
  simp only [Option.bind_eq_bind, Option.bind_eq_some_iff] at hst
  obtain ⟨n, hn, us, hus, hst⟩ := hst
  split at hst
  rotate_left
  · cases hst
  split at hst <;> (try cases hst)
  all_goals
    split at hst <;> (try cases hst)
    split at hst <;> (try cases hst)
    simp

section
variable {E : Env} {B0 : Nat} {X A : Nat → Prop} {w0 : World} {nt : Nat} {ops : Array Oper} {st : St} {a0 : Act} {ρ0 : List Entry} {ps : List PI} {es : List Entry} {own0 : List Blk} {K : St → Prop}

/-- The listed operations. -/
def Ld (listed : Array Bool) (i : Nat) : Prop := listed.getD i true = true

structure Inv1 (E : Env) (B0 : Nat) (X A : Nat → Prop) (w0 : World) (nt : Nat) (ops : Array Oper) (st : St) (a0 : Act) (ρ0 : List Entry) (ps : List PI) (es : List Entry) (own0 : List Blk) (K : St → Prop)
    (listed : Array Bool) (a : Act) (w : World) (μ : Mu) (sd : List Oper) (sr : List (Oper × Nat)) (om : List Blk) : Prop where
  own : Own B0 X A w μ om
  len : om.length = own0.length
  fr : Fr B0 X w0 w
  base : B0 ≤ w.heap.size
  glo : ∀ g s, E.glob g = some s → s.pure = true ∧ D w (held A μ) μ s (.pointer (some ⟨g, 0, none⟩))
  dfr : a.defers = []
  size : a.tmps.size = nt
  sk : storesK E nt ops ρ0 ps (fun own => seqK E nt ops K ((ofKind ops 2).map (·.1)) ⟨es ++ ρ0, own⟩) sr sd om
  late : om = own0 ∨ lateK E nt ops ρ0 ps sd om ps
  sdL : ∀ s ∈ sd, ∃ i, ops[i]? = some s ∧ Ld listed i
  srU : ∀ x ∈ sr, ops[x.2]? = some x.1 ∧ (kinds ops).getD x.2 0 = 1 ∧ ¬ Ld listed x.2
  srA : ∀ (i : Nat) (o : Oper), ops[i]? = some o → (kinds ops).getD i 0 = 1 → ¬ Ld listed i → (o, i) ∈ sr
  srP : sr.Pairwise (fun x y => x.2 < y.2)
  ent : ∀ q ∈ ps, Ld listed q.i → EntryOK' w (held A μ) μ a.tmps q.out
  tmp : ∀ t, (∀ q ∈ ps, Ld listed q.i → q.o.dst ≠ some t) → a.tmps.getD t undef = a0.tmps.getD t undef
  fresh : ∀ k, st.own.length ≤ k → (∀ q ∈ ps, Ld listed q.i → q.al.isSome = true → q.own.length ≠ k) → μ k = none
  env0 : EnvD w (held A μ) μ a0.tmps ρ0
  closed : ∀ (i : Nat) (o : Oper) (j : Nat), ops[i]? = some o → Ld listed i → waits o j = true → Ld listed j
  anc : ∀ x, E.anc = some x → μ 0 = some x
  no2 : ∀ (i : Nat) (o : Oper), ops[i]? = some o → (kinds ops).getD i 0 = 2 → ¬ Ld listed i

/-- What an operation waits for through others is listed too. -/
theorem reach_closed {ops : Array Oper} {listed : Array Bool} (hc : ∀ (i : Nat) (o : Oper) (j : Nat), ops[i]? = some o → Ld listed i → waits o j = true → Ld listed j) {i j : Nat} (h : Reach ops i j) : Ld listed i → Ld listed j := by
  induction h with
  | one h hw => exact fun hi => hc _ _ _ h hi hw
  | more h hw _ ih => exact fun hi => ih (hc _ _ _ h hi hw)
theorem reach_listed {ops : Array Oper} {listed : Array Bool} (hc : ∀ (i : Nat) (o : Oper) (j : Nat), ops[i]? = some o → Ld listed i → waits o j = true → Ld listed j) {i j : Nat} (h : Reach ops i j) {o : Oper} (ho : ops[i]? = some o) (hr : ∀ j, waits o j = true → Ld listed j) : Ld listed j := by
  cases h with
  | one h hw => rw [h] at ho; cases ho; exact hr _ hw
  | more h hw hr' => rw [h] at ho; cases ho; exact reach_closed hc hr' (hr _ hw)

/-- What stays fixed while the region runs. -/
structure Fixed (E : Env) (nt : Nat) (ops : Array Oper) (st : St) (ρ0 : List Entry) (ps : List PI) (es : List Entry) (own0 : List Blk) : Prop where
  dr : Draws ops
  par : ParOK E nt ops ρ0 st.own own0 ps
  pin : ∀ q ∈ ps, ops[q.i]? = some q.o ∧ (kinds ops).getD q.i 0 = 0
  pall : ∀ (i : Nat) (o : Oper), ops[i]? = some o → (kinds ops).getD i 0 = 0 → ∃ q ∈ ps, q.o = o ∧ q.i = i
  es : ∀ e, e ∈ es ↔ ∃ q ∈ ps, q.out = some e
  gno : ∀ e ∈ ρ0, ∀ g b, e.guard = some (g, b) → ∀ (i : Nat) (o : Oper), ops[i]? = some o → o.dst ≠ some g
  top : st.own.length ≤ own0.length
  uni : ∀ q ∈ ps, ∀ q' ∈ ps, q.i = q'.i → q = q'

variable {listed : Array Bool} {a : Act} {w : World} {μ : Mu} {sd : List Oper} {sr : List (Oper × Nat)} {om : List Blk}

/-- What the operation i may read. -/
theorem env_at (hF : Fixed E nt ops st ρ0 ps es own0) (h : Inv1 E B0 X A w0 nt ops st a0 ρ0 ps es own0 K listed a w μ sd sr om) {i : Nat} {o : Oper} (ho : ops[i]? = some o) (hk : (kinds ops).getD i 0 ≠ 2) (hi : ¬ Ld listed i) (hr : ∀ j, waits o j = true → Ld listed j)
    {ρ : List Entry} (hρ : EnvFrom ps ρ0 i ρ) : EnvD w (held A μ) μ a.tmps (restrictE (namesOf ops o) ρ) := by
  intro t e he
  obtain ⟨ht, he⟩ := look_restrict he
  have hslot := look_slot he
  rcases hρ t e he with ⟨q, hq, hlt, ho'⟩ | ⟨hl, hn⟩
  · obtain ⟨ρq, p, _, hs, _⟩ := hF.par.step q hq
    have hd : q.o.dst = some t := by
      have := (stepP_slot hs).1
      rw [ho'] at this
      rw [← this]
      simp [hslot]
    obtain ⟨hqo, hqk⟩ := hF.pin q hq
    have := hF.dr.names i o t q.i q.o ho hk ht hqo (Nat.ne_of_lt hlt) hd
    rw [if_pos ⟨hlt, hqk⟩] at this
    have := h.ent q hq (reach_listed h.closed this ho hr)
    rw [ho'] at this
    exact this
  · have h0 := h.env0 t e hl
    have same : ∀ t', (∀ q ∈ ps, Ld listed q.i → q.o.dst ≠ some t') → a.tmps.getD t' undef = a0.tmps.getD t' undef := h.tmp
    have st1 : a.tmps.getD t undef = a0.tmps.getD t undef := by
      refine same t (fun q hq hL hd => ?_)
      obtain ⟨hqo, hqk⟩ := hF.pin q hq
      have hne : q.i ≠ i := fun e => hi (e ▸ hL)
      rcases Nat.lt_or_gt_of_ne hne with hlt | hgt
      · obtain ⟨ρq, p, _, hs, _⟩ := hF.par.step q hq
        have hsl := (stepP_slot hs).1
        rw [hd] at hsl
        rw [Option.map_eq_some_iff] at hsl
        obtain ⟨e', he', hs'⟩ := hsl
        exact hn q hq hlt e' he' hs'
      · have := hF.dr.names i o t q.i q.o ho hk ht hqo hne hd
        rw [if_neg (by omega)] at this
        exact hi (reach_closed h.closed this hL)
    unfold EntryOK at h0 ⊢
    rw [hslot] at h0 ⊢
    split
    · rename_i hg
      rw [hg] at h0
      simp only at h0
      rw [st1]
      exact h0
    · rename_i g b hg
      rw [hg] at h0
      simp only at h0
      have sg : a.tmps.getD g undef = a0.tmps.getD g undef := same g (fun q hq _ hd => hF.gno e (look_mem hl) g b hg q.i q.o (hF.pin q hq).1 hd)
      rw [st1, sg]
      exact h0
end

end Go.Proofs.YthfkpmobmnfgcaaDoor.V

