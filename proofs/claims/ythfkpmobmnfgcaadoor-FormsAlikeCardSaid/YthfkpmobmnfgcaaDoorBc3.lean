/-
  Parts of the proof: W3 W4 V17 V18 V19 S1 S2 P7 P4 P5 P1 P2 P3. Conditions: none.
-/
import Derived.Test.YthfkpmobmnfgcaaDoorBc2
import Derived.Test.YthfkpmobmnfgcaaDoorRows
import Derived.Test.YthfkpmobmnfgcaaDoorChecked
/-
  Regions that draw their order, over symbolic states: the steps of the walk over the orders, and its end. Conditions: none.
-/
namespace Go.Proofs.YthfkpmobmnfgcaaDoor.V
open Go

section
variable {E : Env} {B0 : Nat} {X A : Nat → Prop} {w0 : World} {nt : Nat} {ops : Array Oper} {st : St} {a0 : Act} {ρ0 : List Entry} {ps : List PI} {es : List Entry} {own0 : List Blk} {K : St → Prop}
variable {listed : Array Bool} {a : Act} {w : World} {μ : Mu} {sd : List Oper} {sr : List (Oper × Nat)} {om : List Blk}

theorem Ld_set {i j : Nat} (hi : i < listed.size) : Ld (listed.setIfInBounds i true) j ↔ j = i ∨ Ld listed j := by
  unfold Ld
  by_cases e : j = i
  · subst e; simp [hi]
  · simp [e, Array.getElem?_setIfInBounds_ne (Ne.symm e)]

theorem EntryOK.keep {w w' : World} {H H' : Nat → Prop} {μ μ' : Mu} {tmps : Array Value} {e : Entry} (hk : Keeps w w' H H' μ μ') (h : EntryOK w H μ tmps e) : EntryOK w' H' μ' tmps e := by
  unfold EntryOK at h ⊢
  split at h
  · exact h.keep hk
  · exact ⟨fun hg => (h.1 hg).keep hk, h.2⟩

theorem put_get {d : Option Nat} {v : Value} {t : Nat} (h : d ≠ some t) : (a.put d v).tmps.getD t undef = a.tmps.getD t undef := by
  cases d with
  | none => rfl
  | some d =>
    have hne : d ≠ t := fun e => h (by rw [e])
    simp [Act.put, Array.getElem?_setIfInBounds_ne hne]

theorem EntryOK.put {H : Nat → Prop} {e : Entry} {d : Option Nat} {v : Value} (hs : d ≠ some e.slot) (hg : ∀ g b, e.guard = some (g, b) → d ≠ some g) (h : EntryOK w H μ a.tmps e) : EntryOK w H μ (a.put d v).tmps e := by
  unfold EntryOK at h ⊢
  split at h
  · rw [put_get hs]; exact h
  · rename_i g b hgd
    rw [put_get hs, put_get (hg g b hgd)]; exact h

theorem par_step (hE : EnvOK E) (hC : CSound E) (hF : Fixed E nt ops st ρ0 ps es own0) (h : Inv1 E B0 X A w0 nt ops st a0 ρ0 ps es own0 K listed a w μ sd sr om) (hsz : listed.size = ops.size) {i : Nat} {o : Oper} (ho : ops[i]? = some o) (hk : (kinds ops).getD i 0 = 0)
    (hi : ¬ Ld listed i) (hr : ∀ j, waits o j = true → Ld listed j) {Kc : Act → World → Prop} {Q : Exit → Act → World → Prop}
    (hK : ∀ a' w' μ', Inv1 E B0 X A w0 nt ops st a0 ρ0 ps es own0 K (listed.setIfInBounds i true) a' w' μ' sd sr om → Kc a' w') : wpOp E.P ops Q i Kc a w := by
  have hilt : i < listed.size := by rw [hsz]; exact (Array.getElem?_eq_some_iff.1 ho).1
  obtain ⟨q, hq, rfl, rfl⟩ := hF.pall i o ho hk
  have ev : ∃ ρ ownq bl p, EnvFrom ps ρ0 q.i ρ ∧ stepP E nt ops (restrictE (namesOf ops q.o) ρ) ownq q.o = some (p, q.out, bl) ∧ p ∧ (∀ (k : Nat) (b : Blk), ownq[k]? = some b → om[k]? = some b) ∧ (bl = none ∨ ownq = q.own ∧ bl = q.al ∧ om = own0) := by
    rcases h.late with e | hl
    · obtain ⟨ρ, p, h1, h2, h3⟩ := hF.par.step q hq
      exact ⟨ρ, q.own, q.al, p, h1, h2, h3, by rw [e]; exact (hF.par.sub q hq).1, .inr ⟨rfl, rfl, e⟩⟩
    · rcases lateK_mem hl q hq with ⟨s, hs, hw⟩ | ⟨p, h2, h3⟩
      · obtain ⟨j, hj, hL⟩ := h.sdL s hs
        exact absurd (h.closed j s q.i hj hL hw) hi
      · exact ⟨_, om, none, p, envFrom_before, h2, h3, fun _ _ h => h, .inl rfl⟩
  obtain ⟨ρ, ownq, bl, p, hρ, hs, hp, hsub, hbl⟩ := ev
  have henv := env_at hF h ho (by omega) hi hr hρ
  have hslot := (stepP_slot hs).1
  have main := (stepP_sound hE hC h.own h.base hsub h.glo henv h.size hs hp (fun b hb => by
    rcases hbl with e | ⟨rfl, rfl, rfl⟩
    · rw [e] at hb; cases hb
    · refine ⟨h.fresh _ (hF.par.low q hq) (fun q' hq' hL ha he => ?_), (hF.par.sub q hq).2 b hb⟩
      have := hF.par.one q' hq' q hq ha (by rw [hb]; rfl) he
      exact hi (this ▸ hL)) (K := Kc) (Q := Q) (fun v w' μ' ha hμ hent => hK _ w' μ' ?_)).2
  · unfold wpOp
    rw [ho]
    simp only
    split
    · rename_i hw; rw [if_pos hw] at main; exact .inl main
    · rename_i hw; rw [if_neg hw] at main; exact main
  · have same : ∀ t, q.o.dst ≠ some t → (a.put q.o.dst v).tmps.getD t undef = a.tmps.getD t undef := fun t ht => put_get ht
    refine ⟨ha.own, h.len, h.fr.trans ha.fr, Nat.le_trans h.base ha.fr.size, glo_keep ha.keeps h.glo, by cases q.o.dst <;> exact h.dfr, by cases q.o.dst <;> simp [Act.put, h.size], h.sk, h.late, fun s hs => ?_, fun x hx => ?_, fun j o' hj hkj hn => ?_, h.srP,
      fun q' hq' hL => ?_, fun t ht => ?_, fun k hk' hn => ?_, h.env0.keep ha.keeps, fun j o' l hj hL hw => ?_, fun x hx => ha.keeps.own _ _ (h.anc x hx), fun j o' hj hkj hL => ?_⟩
    · obtain ⟨j, hj, hL⟩ := h.sdL s hs
      exact ⟨j, hj, (Ld_set hilt).2 (.inr hL)⟩
    · obtain ⟨x1, x2, x3⟩ := h.srU x hx
      refine ⟨x1, x2, fun hL => ?_⟩
      rcases (Ld_set hilt).1 hL with e | hL
      · rw [e] at x2; omega
      · exact x3 hL
    · exact h.srA j o' hj hkj (fun hL => hn ((Ld_set hilt).2 (.inr hL)))
    · rcases (Ld_set hilt).1 hL with e | hL
      · rw [hF.uni q' hq' q hq e]; exact hent
      · have old := h.ent q' hq' hL
        have hne : q'.i ≠ q.i := fun e => hi (e ▸ hL)
        obtain ⟨ρ', p', _, hs', _⟩ := hF.par.step q' hq'
        obtain ⟨sl1, sl2⟩ := stepP_slot hs'
        unfold EntryOK' at old ⊢
        split
        · exact trivial
        · rename_i e he
          rw [he] at old sl1
          simp only at old
          refine (EntryOK.keep ha.keeps old).put (fun hd => ?_) (fun g b hg hd => ?_)
          · have : q'.o.dst = some e.slot := by rw [← sl1]; rfl
            exact hne (hF.dr.uniq _ _ _ _ _ (hF.pin q' hq').1 ho this hd)
          · obtain ⟨j, p2, hgd, hj⟩ := sl2 e he g b hg
            cases hoj : ops[j]? with
            | none => rw [hoj] at hj; cases hj
            | some oj =>
              rw [hoj] at hj
              have hji := hF.dr.uniq _ _ _ _ _ hoj ho hj hd
              have hw := hF.dr.guard _ _ _ _ (hF.pin q' hq').1 hgd
              exact hi (hji ▸ h.closed _ _ _ (hF.pin q' hq').1 hL hw)
    · rw [same t (ht q hq ((Ld_set hilt).2 (.inl rfl)))]
      exact h.tmp t (fun q' hq' hL => ht q' hq' ((Ld_set hilt).2 (.inr hL)))
    · rw [hμ k (fun hb => ?_)]
      · exact h.fresh k hk' (fun q' hq' hL => hn q' hq' ((Ld_set hilt).2 (.inr hL)))
      · rcases hbl with e | ⟨rfl, rfl, _⟩
        · rw [e] at hb; cases hb
        · exact fun e => hn q hq ((Ld_set hilt).2 (.inl rfl)) hb e.symm
    · rcases (Ld_set hilt).1 hL with e | hL
      · subst e
        rw [ho] at hj
        cases hj
        exact (Ld_set hilt).2 (.inr (hr l hw))
      · exact (Ld_set hilt).2 (.inr (h.closed j o' l hj hL hw))
    · rcases (Ld_set hilt).1 hL with e | hL
      · subst e; omega
      · exact h.no2 j o' hj hkj hL

theorem store_step (hF : Fixed E nt ops st ρ0 ps es own0) (h : Inv1 E B0 X A w0 nt ops st a0 ρ0 ps es own0 K listed a w μ sd sr om) (hsz : listed.size = ops.size) {i : Nat} {o : Oper} (ho : ops[i]? = some o) (hk : (kinds ops).getD i 0 = 1)
    (hi : ¬ Ld listed i) (hr : ∀ j, waits o j = true → Ld listed j) {Kc : Act → World → Prop} {Q : Exit → Act → World → Prop}
    (hK : ∀ a' w' μ' sd' sr' om', Inv1 E B0 X A w0 nt ops st a0 ρ0 ps es own0 K (listed.setIfInBounds i true) a' w' μ' sd' sr' om' → Kc a' w') : wpOp E.P ops Q i Kc a w := by
  have hilt : i < listed.size := by rw [hsz]; exact (Array.getElem?_eq_some_iff.1 ho).1
  obtain ⟨hd, hg, hst⟩ := hF.dr.store i o ho hk
  have hmem := h.srA i o ho hk hi
  have hsk := h.sk
  have hsrP := h.srP
  have hsrU := h.srU
  have hsrA := h.srA
  match sr, hmem, hsk, hsrP, hsrU, hsrA with
  | (o', i') :: r, hmem, hsk, hsrP, hsrU, hsrA =>
    rw [List.pairwise_cons] at hsrP
    have hhead : (o, i) = (o', i') := by
      rcases List.mem_cons.1 hmem with e | hm
      · exact e
      · exfalso
        have hlt := hsrP.1 _ hm
        obtain ⟨u1, u2, u3⟩ := hsrU (o', i') (by simp)
        exact u3 (hr i' (hst i' o' u1 hlt u2))
    cases hhead
    simp only [storesK] at hsk
    split at hsk
    rotate_left
    · exact hsk.elim
    rename_i p own' hev
    rw [fB_eq] at hsk
    obtain ⟨hp, hlate, hsk⟩ := hsk
    replace hp := hp.out
    have henv := env_at hF h ho (by omega) hi hr (envFrom_before (ps := ps) (ρ0 := ρ0) (i := i))
    unfold evStoreO at hev
    split at hev
    rotate_left
    · cases hev
    rename_i T px xx hop
    simp only [Option.bind_eq_some_iff] at hev
    obtain ⟨sp, hsp, sx, hsx, hev⟩ := hev
    have hρ := opd_sound (E := E) (a := a) (g := none) (fun n s hn => (h.glo n s hn).2) henv (fun q b e => by cases e)
    obtain ⟨w', hrun, ha⟩ := store_sound h.own (hρ _ _ hsp) (hρ _ _ hsx) hev hp
    have hx : (execOp a.eval o).run E.P w = .ok .skip w' := by simp [execOp, hop, hrun]
    unfold wpOp
    rw [ho]
    simp only
    rw [if_pos (by simp [Region.wanted, hg])]
    refine .inl ?_
    unfold Oper.wp
    rw [hx]
    show Kc (a.put o.dst undef) w'
    rw [hd]
    refine hK a w' μ (o :: sd) r own' ⟨ha.own, (evStore_length hev).trans h.len, h.fr.trans ha.fr, Nat.le_trans h.base ha.fr.size, glo_keep ha.keeps h.glo, h.dfr, h.size, hsk, .inr hlate, fun s hs => ?_, fun x hx => ?_, fun j o' hj hkj hn => ?_, hsrP.2,
      fun q' hq' hL => ?_, fun t ht => h.tmp t (fun q hq hL => ht q hq ((Ld_set hilt).2 (.inr hL))), fun k hk' hn => h.fresh k hk' (fun q hq hL => hn q hq ((Ld_set hilt).2 (.inr hL))), h.env0.keep ha.keeps, fun j o' l hj hL hw => ?_, h.anc, fun j o' hj hkj hL => ?_⟩
    · rcases List.mem_cons.1 hs with rfl | hs
      · exact ⟨i, ho, (Ld_set hilt).2 (.inl rfl)⟩
      · obtain ⟨j, hj, hL⟩ := h.sdL s hs
        exact ⟨j, hj, (Ld_set hilt).2 (.inr hL)⟩
    · obtain ⟨u1, u2, u3⟩ := hsrU x (by simp [hx])
      refine ⟨u1, u2, fun hL => ?_⟩
      rcases (Ld_set hilt).1 hL with e | hL
      · have := hsrP.1 x hx; simp only at this; omega
      · exact u3 hL
    · have := hsrA j o' hj hkj (fun hL => hn ((Ld_set hilt).2 (.inr hL)))
      rcases List.mem_cons.1 this with e | hm
      · cases e; exact absurd ((Ld_set hilt).2 (.inl rfl)) hn
      · exact hm
    · rcases (Ld_set hilt).1 hL with e | hL
      · have := (hF.pin q' hq').2; rw [e] at this; omega
      · have old := h.ent q' hq' hL
        unfold EntryOK' at old ⊢
        split
        · exact trivial
        · rename_i e he
          rw [he] at old
          exact EntryOK.keep ha.keeps old
    · rcases (Ld_set hilt).1 hL with e | hL
      · subst e
        rw [ho] at hj
        cases hj
        exact (Ld_set hilt).2 (.inr (hr l hw))
      · exact (Ld_set hilt).2 (.inr (h.closed j o' l hj hL hw))
    · rcases (Ld_set hilt).1 hL with e | hL
      · subst e; omega
      · exact h.no2 j o' hj hkj hL

/-- When all that may come in any order has come, and the stores: a state as after steps in order. -/
theorem settle (hF : Fixed E nt ops st ρ0 ps es own0) (h : Inv1 E B0 X A w0 nt ops st a0 ρ0 ps es own0 K listed a w μ sd sr om) (hall : ∀ (i : Nat) (o : Oper), ops[i]? = some o → (kinds ops).getD i 0 ≠ 2 → Ld listed i) :
    SD E B0 X A w0 nt ⟨es ++ ρ0, om⟩ a w μ ∧ seqK E nt ops K ((ofKind ops 2).map (·.1)) ⟨es ++ ρ0, om⟩ := by
  have hpl : ∀ q ∈ ps, Ld listed q.i := fun q hq => hall q.i q.o (hF.pin q hq).1 (by rw [(hF.pin q hq).2]; omega)
  refine ⟨⟨h.own, h.fr, h.base, h.glo, h.dfr, h.size, fun t e he => ?_, fun k hk => ?_, h.anc⟩, ?_⟩
  · have hslot := look_slot he
    have he' := he
    simp only at he
    rw [look_app] at he
    split at he
    · rename_i x hx
      cases he
      obtain ⟨q, hq, ho⟩ := (hF.es _).1 (look_mem hx)
      have := h.ent q hq (hpl q hq)
      rw [ho] at this
      exact this
    · rename_i hn
      have h0 := h.env0 t e he
      have hno : ∀ q ∈ ps, q.o.dst ≠ some t := by
        intro q hq hd
        obtain ⟨ρq, p, _, hs, _⟩ := hF.par.step q hq
        have hsl := (stepP_slot hs).1
        rw [hd, Option.map_eq_some_iff] at hsl
        obtain ⟨e', he1, hs'⟩ := hsl
        exact look_none.1 hn e' ((hF.es _).2 ⟨q, hq, he1⟩) hs'
      have st1 := h.tmp t (fun q hq _ => hno q hq)
      unfold EntryOK at h0 ⊢
      rw [hslot] at h0 ⊢
      split
      · rename_i hg
        rw [hg] at h0
        simp only at h0
        rw [st1]
        exact h0
      · rename_i g b hg
        rw [hg] at h0
        simp only at h0
        have sg := h.tmp g (fun q hq _ hd => hF.gno e (look_mem he) g b hg q.i q.o (hF.pin q hq).1 hd)
        rw [st1, sg]
        exact h0
  · simp only at hk
    rw [h.len] at hk
    refine h.fresh k (Nat.le_trans hF.top hk) (fun q hq _ ha e => ?_)
    have := hF.par.top q hq ha
    omega
  · have hsr : sr = [] := by
      match sr, h.srU with
      | [], _ => rfl
      | x :: r, hU =>
        obtain ⟨u1, u2, u3⟩ := hU x (by simp)
        exact absurd (hall _ _ u1 (by omega)) u3
    have := h.sk
    rw [hsr] at this
    exact this
end

end Go.Proofs.YthfkpmobmnfgcaaDoor.V

/-
  Regions that draw their order, over symbolic states: the end. Conditions: none.
-/
namespace Go.Proofs.YthfkpmobmnfgcaaDoor.V
open Go

theorem kindStep_le (ks : List Nat) (o : Oper) : kindStep ks o ≤ 2 := by
  unfold kindStep
  split
  · exact Nat.le_refl _
  · split <;> decide

theorem kinds_le (ops : Array Oper) (i : Nat) : (kinds ops).getD i 0 ≤ 2 := by
  have : ∀ (l : List Oper) (ks : List Nat), (∀ x ∈ ks, x ≤ 2) → ∀ x ∈ l.foldl (fun ks o => ks ++ [kindStep ks o]) ks, x ≤ 2 := by
    intro l
    induction l with
    | nil => intro ks h; exact h
    | cons o l ih =>
      intro ks h
      refine ih _ (fun x hx => ?_)
      rcases List.mem_append.1 hx with hx | hx
      · exact h x hx
      · rw [List.mem_singleton.1 hx]; exact kindStep_le _ _
  have h := this ops.toList [] (by simp)
  rw [List.getD_eq_getElem?_getD]
  cases e : (kinds ops)[i]? with
  | none => simp
  | some x => exact h x (List.mem_of_getElem? e)

theorem ready_spec {ops : Array Oper} {listed : Array Bool} (hsz : listed.size = ops.size) (hl : ∀ (i : Nat) (o : Oper) (j : Nat), ops[i]? = some o → waits o j = true → j < i) {i : Nat} (h : i ∈ Region.ready .any ops listed) : ∃ o, ops[i]? = some o ∧ ¬ Ld listed i ∧ ∀ j, waits o j = true → Ld listed j := by
  unfold Region.ready at h
  simp only [List.mem_filter, List.mem_range, Bool.and_eq_true, Bool.not_eq_true'] at h
  obtain ⟨h1, h2, h3⟩ := h
  obtain ⟨o, ho⟩ : ∃ o, ops[i]? = some o := ⟨ops[i], by simp [h1]⟩
  refine ⟨o, ho, by unfold Ld; rw [h2]; simp, fun j hj => ?_⟩
  have hlt := hl i o j ho hj
  rw [ho] at h3
  simp only [Option.map_some, Option.getD_some] at h3
  rw [Array.all_eq_true_iff_forall_mem] at h3
  simp only [waits, List.any_eq_true, Bool.and_eq_true, beq_iff_eq] at hj
  obtain ⟨e, he, hb, rfl⟩ := hj
  have := h3 e (by simpa using he)
  rw [hb] at this
  simp only [Bool.not_true, Bool.false_or] at this
  unfold Ld
  rw [← this]
  have hlt' : e.on < listed.size := by omega
  simp [Array.getD, hlt']

theorem ready_nil {ops : Array Oper} {listed : Array Bool} (hl : ∀ (i : Nat) (o : Oper) (j : Nat), ops[i]? = some o → waits o j = true → j < i) (hsz : listed.size = ops.size) (h : Region.ready .any ops listed = []) : ∀ (i : Nat) (o : Oper), ops[i]? = some o → Ld listed i := by
  intro i
  induction i using Nat.strongRecOn with
  | _ i ih =>
    intro o ho
    have hi : i < ops.size := (Array.getElem?_eq_some_iff.1 ho).1
    by_cases hL : Ld listed i
    · exact hL
    exfalso
    have : i ∈ Region.ready .any ops listed := by
      unfold Region.ready
      simp only [List.mem_filter, List.mem_range, Bool.and_eq_true, Bool.not_eq_true']
      refine ⟨hi, by unfold Ld at hL; simpa using hL, ?_⟩
      rw [ho]
      simp only [Option.map_some, Option.getD_some]
      rw [Array.all_eq_true_iff_forall_mem]
      intro e he
      cases hb : Region.binds .any e with
      | false => rfl
      | true =>
        have hw : waits o e.on = true := by
          simp only [waits, List.any_eq_true, Bool.and_eq_true, beq_iff_eq]
          exact ⟨e, by simpa using he, hb, rfl⟩
        have hlt := hl i o _ ho hw
        obtain ⟨o', ho'⟩ : ∃ o', ops[e.on]? = some o' := ⟨ops[e.on]'(by omega), by simp [show e.on < ops.size by omega]⟩
        have := ih _ hlt o' ho'
        unfold Ld at this
        have hlt' : e.on < listed.size := by omega
        simp [Array.getD, hlt'] at this ⊢
        exact this
    rw [h] at this
    simp at this

section
variable {E : Env} {B0 : Nat} {X A : Nat → Prop} {w0 : World} {nt : Nat} {ops : Array Oper} {st : St} {a0 : Act} {ρ0 : List Entry} {ps : List PI} {es : List Entry} {own0 : List Blk} {K : St → Prop}

/-- What the rest, in order, stands at. -/
structure Inv2 (E : Env) (B0 : Nat) (X A : Nat → Prop) (w0 : World) (nt : Nat) (ops : Array Oper) (K : St → Prop) (listed : Array Bool) (a : Act) (w : World) (μ : Mu) (rest : List (Oper × Nat)) (st' : St) : Prop where
  sd : SD E B0 X A w0 nt st' a w μ
  sk : seqK E nt ops K (rest.map (·.1)) st'
  low : ∀ (i : Nat) (o : Oper), ops[i]? = some o → (kinds ops).getD i 0 ≠ 2 → Ld listed i
  mem : ∀ x ∈ rest, ops[x.2]? = some x.1 ∧ (kinds ops).getD x.2 0 = 2 ∧ ¬ Ld listed x.2
  all : ∀ (i : Nat) (o : Oper), ops[i]? = some o → ¬ Ld listed i → (o, i) ∈ rest
  pair : rest.Pairwise (fun x y => x.2 < y.2)
  cl : ∀ (i : Nat) (o : Oper) (j : Nat), ops[i]? = some o → Ld listed i → waits o j = true → Ld listed j

theorem last_step (hE : EnvOK E) (hC : CSound E) (hd : Draws ops) {listed : Array Bool} {a : Act} {w : World} {μ : Mu} {rest : List (Oper × Nat)} {st' : St} (h : Inv2 E B0 X A w0 nt ops K listed a w μ rest st') (hsz : listed.size = ops.size) {i : Nat} {o : Oper} (ho : ops[i]? = some o)
    (hi : ¬ Ld listed i) (hr : ∀ j, waits o j = true → Ld listed j) {Kc : Act → World → Prop} {Q : Exit → Act → World → Prop}
    (hK : ∀ a' w' μ' rest' st'', Inv2 E B0 X A w0 nt ops K (listed.setIfInBounds i true) a' w' μ' rest' st'' → Kc a' w') : wpOp E.P ops Q i Kc a w := by
  have hilt : i < listed.size := by rw [hsz]; exact (Array.getElem?_eq_some_iff.1 ho).1
  have hmem := h.all i o ho hi
  have hsk := h.sk
  have hm := h.mem
  have hp := h.pair
  have ha := h.all
  match rest, hmem, hsk, hm, hp, ha with
  | (o', i') :: r, hmem, hsk, hm, hp, ha =>
    rw [List.pairwise_cons] at hp
    have hk2 : (kinds ops).getD i 0 = 2 := by
      have := hm _ hmem; exact this.2.1
    have hhead : (o, i) = (o', i') := by
      rcases List.mem_cons.1 hmem with e | hm'
      · exact e
      · exfalso
        have hlt : i' < i := hp.1 _ hm'
        obtain ⟨u1, u2, u3⟩ := hm (o', i') (by simp)
        exact u3 (reach_listed h.cl (hd.last i o i' o' ho hk2 u1 (by omega) (by omega)) ho hr)
    cases hhead
    simp only [List.map_cons, seqK] at hsk
    split at hsk
    rotate_left
    · exact hsk.elim
    rename_i p st1 hs
    rw [St.force_eq] at hsk
    have := stepF_sound (K := Kc) (Q := Q) hE hC h.sd hs hsk.1.out (fun a' w' μ' hs' => hK a' w' μ' r st1 ⟨hs', hsk.2, fun j o' hj hk => (Ld_set hilt).2 (.inr (h.low j o' hj hk)), fun x hx => ?_, fun j o' hj hn => ?_, hp.2, fun j o' k hj hL hw => ?_⟩)
    · unfold wpOp
      rw [ho]
      simp only
      split
      · rename_i hw; rw [if_pos hw] at this; exact .inl this
      · rename_i hw; rw [if_neg hw] at this; exact this
    · obtain ⟨u1, u2, u3⟩ := hm x (by simp [hx])
      refine ⟨u1, u2, fun hL => ?_⟩
      rcases (Ld_set hilt).1 hL with e | hL
      · have := hp.1 x hx; simp only at this; omega
      · exact u3 hL
    · rcases List.mem_cons.1 (ha j o' hj (fun hL => hn ((Ld_set hilt).2 (.inr hL)))) with e | hm'
      · cases e; exact absurd ((Ld_set hilt).2 (.inl rfl)) hn
      · exact hm'
    · refine (Ld_set hilt).2 (.inr ?_)
      rcases (Ld_set hilt).1 hL with e | hL
      · subst e
        rw [ho] at hj
        cases hj
        exact hr _ hw
      · exact h.cl _ _ _ hj hL hw

/-- Where the walk stands. -/
def Stand (E : Env) (B0 : Nat) (X A : Nat → Prop) (w0 : World) (nt : Nat) (ops : Array Oper) (st : St) (a0 : Act) (ρ0 : List Entry) (ps : List PI) (es : List Entry) (own0 : List Blk) (K : St → Prop) (listed : Array Bool) (a : Act) (w : World) : Prop :=
  (∃ μ sd sr om, Inv1 E B0 X A w0 nt ops st a0 ρ0 ps es own0 K listed a w μ sd sr om) ∨ ∃ μ rest st', Inv2 E B0 X A w0 nt ops K listed a w μ rest st'

theorem to_two (hF : Fixed E nt ops st ρ0 ps es own0) {listed : Array Bool} {a : Act} {w : World} {μ : Mu} {sd : List Oper} {sr : List (Oper × Nat)} {om : List Blk} (h : Inv1 E B0 X A w0 nt ops st a0 ρ0 ps es own0 K listed a w μ sd sr om) (hall : ∀ (i : Nat) (o : Oper), ops[i]? = some o → (kinds ops).getD i 0 ≠ 2 → Ld listed i) :
    Inv2 E B0 X A w0 nt ops K listed a w μ (ofKind ops 2) ⟨es ++ ρ0, om⟩ := by
  obtain ⟨h1, h2⟩ := settle hF h hall
  refine ⟨h1, h2, hall, fun x hx => ?_, fun i o ho hn => ?_, ofKind_pair _ _, h.closed⟩
  · obtain ⟨u1, u2⟩ := ofKind_mem.1 (show (x.1, x.2) ∈ ofKind ops 2 from hx)
    exact ⟨u1, u2, h.no2 _ _ u1 u2⟩
  · refine ofKind_mem.2 ⟨ho, ?_⟩
    by_cases hk : (kinds ops).getD i 0 = 2
    · exact hk
    · exact absurd (hall i o ho hk) hn

theorem walk (hE : EnvOK E) (hC : CSound E) (hF : Fixed E nt ops st ρ0 ps es own0) {Q : Exit → Act → World → Prop} (hQ : ∀ st' a' w' μ', SD E B0 X A w0 nt st' a' w' μ' → K st' → Q .normal a' w') : ∀ (fuel : Nat) (listed : Array Bool) (U : List Nat) (a : Act) (w : World),
    listed.size = ops.size → (∀ (i : Nat) (o : Oper), ops[i]? = some o → ¬ Ld listed i → i ∈ U) → U.length ≤ fuel → Stand E B0 X A w0 nt ops st a0 ρ0 ps es own0 K listed a w → wpAny E.P .any ops Q fuel listed a w := by
  have fin : ∀ (listed : Array Bool) (a : Act) (w : World), Stand E B0 X A w0 nt ops st a0 ρ0 ps es own0 K listed a w → (∀ (i : Nat) (o : Oper), ops[i]? = some o → Ld listed i) → Q .normal a w := by
    intro listed a w h hall
    have two : ∀ {μ rest st'}, Inv2 E B0 X A w0 nt ops K listed a w μ rest st' → Q .normal a w := by
      intro μ rest st' h
      have : rest = [] := by
        match rest, h.mem with
        | [], _ => rfl
        | x :: r, hm => obtain ⟨u1, _, u3⟩ := hm x (by simp); exact absurd (hall _ _ u1) u3
      have hk := h.sk
      rw [this] at hk
      exact hQ _ _ _ _ h.sd hk
    rcases h with ⟨μ, sd, sr, om, h⟩ | ⟨μ, rest, st', h⟩
    · exact two (to_two hF h (fun i o ho _ => hall i o ho))
    · exact two h
  intro fuel
  induction fuel with
  | zero =>
    intro listed U a w hsz hU hl h
    have hall : ∀ (i : Nat) (o : Oper), ops[i]? = some o → Ld listed i := by
      intro i o ho
      by_cases hL : Ld listed i
      · exact hL
      · have := hU i o ho hL
        rw [List.length_eq_zero_iff.1 (by omega : U.length = 0)] at this
        simp at this
    refine ⟨?_, fin listed a w h hall⟩
    refine List.eq_nil_iff_forall_not_mem.2 (fun i hi => ?_)
    obtain ⟨o, ho, hn, _⟩ := ready_spec hsz hF.dr.lt hi
    exact hn (hall i o ho)
  | succ fuel ih =>
    intro listed U a w hsz hU hl h
    refine ⟨fun h0 => fin listed a w h (ready_nil hF.dr.lt hsz h0), fun i hi => ?_⟩
    obtain ⟨o, ho, hn, hr⟩ := ready_spec hsz hF.dr.lt hi
    have hiU := hU i o ho hn
    have hilt : i < listed.size := by rw [hsz]; exact (Array.getElem?_eq_some_iff.1 ho).1
    have next : ∀ a' w', Stand E B0 X A w0 nt ops st a0 ρ0 ps es own0 K (listed.setIfInBounds i true) a' w' → wpAny E.P .any ops Q fuel (listed.setIfInBounds i true) a' w' := by
      intro a' w' hs
      refine ih _ (U.erase i) a' w' (by simpa using hsz) (fun j o' hj hnj => ?_) ?_ hs
      · have hne : j ≠ i := fun e => hnj ((Ld_set hilt).2 (.inl e))
        exact (List.mem_erase_of_ne hne).2 (hU j o' hj (fun hL => hnj ((Ld_set hilt).2 (.inr hL))))
      · rw [List.length_erase_of_mem hiU]; omega
    have two : ∀ {μ rest st'}, Inv2 E B0 X A w0 nt ops K listed a w μ rest st' → wpOp E.P ops Q i (wpAny E.P .any ops Q fuel (listed.setIfInBounds i true)) a w := by
      intro μ rest st' h
      exact last_step hE hC hF.dr h hsz ho hn hr (fun a' w' μ' rest' st'' h' => next a' w' (.inr ⟨μ', rest', st'', h'⟩))
    rcases h with ⟨μ, sd, sr, om, h⟩ | ⟨μ, rest, st', h⟩
    · have hk := kinds_le ops i
      by_cases h0 : (kinds ops).getD i 0 = 0
      · exact par_step hE hC hF h hsz ho h0 hn hr (fun a' w' μ' h' => next a' w' (.inl ⟨μ', sd, sr, om, h'⟩))
      by_cases h1 : (kinds ops).getD i 0 = 1
      · exact store_step hF h hsz ho h1 hn hr (fun a' w' μ' sd' sr' om' h' => next a' w' (.inl ⟨μ', sd', sr', om', h'⟩))
      have h2 : (kinds ops).getD i 0 = 2 := by omega
      refine two (to_two hF h (fun j o' hj hkj => reach_listed h.closed (hF.dr.last i o j o' ho h2 hj (fun e => hkj (e ▸ h2)) (fun hc => hkj hc.1)) ho hr))
    · exact two h

theorem forget_ok {w : World} {H : Nat → Prop} {μ : Mu} {tmps : Array Value} {ds : List Nat} {ρ : List Entry} (h : EnvD w H μ tmps ρ) : EnvD w H μ tmps (ρ.map (forgetL ds)) := by
  intro t e he
  rw [look_map (forgetL_slot ds), Option.map_eq_some_iff] at he
  obtain ⟨e0, he0, rfl⟩ := he
  have h0 := h t e0 he0
  unfold forgetL
  split
  · split
    · exact .any
    · exact h0
  · exact h0

theorem draw_sound (hE : EnvOK E) (hC : CSound E) (hm : E.P.follows .mixedOrders = true) {id : Nat} (hok : drawOK ops = true) {a : Act} {w : World} {μ : Mu} (h : SD E B0 X A w0 nt st a w μ) (hw : drawK E nt ops K st) {R : Exit → Act → World → Prop}
    (hR : ∀ st' a' w' μ', SD E B0 X A w0 nt st' a' w' μ' → K st' → R .normal a' w') : (Code.region id ops true).wp E.P R a w := by
  have hd := draws_of hok
  refine wp_region_any hm ?_
  change wpAny E.P .any ops R ops.size (Array.replicate ops.size false) a w.drew
  simp only [drawK, fE_eq] at hw
  generalize hρ0 : st.ρ.map (forgetL (ops.toList.filterMap (·.dst))) = ρ0 at hw
  obtain ⟨ps, es, own0, hpar, hes, hk, hin, hall, _, htop, huni⟩ := parK_ok (base := st.own) (ofKind ops 0) [] [] st.own hw ⟨by simp, by simp, by simp, by simp, fun _ _ h => h, by simp⟩ (by simp) (by simp) (by simp) (ofKind_pair _ _) (Nat.le_refl _) (by simp)
  have hpin : ∀ q ∈ ps, ops[q.i]? = some q.o ∧ (kinds ops).getD q.i 0 = 0 := by
    intro q hq
    rcases hin q hq with h | h
    · simp at h
    · exact ofKind_mem.1 h
  have hF : Fixed E nt ops st ρ0 ps es own0 := by
    refine ⟨hd, hpar, hpin, fun i o ho hk => hall (o, i) (ofKind_mem.2 ⟨ho, hk⟩), hes, fun e he g b hg i o ho hdst => ?_, htop, huni⟩
    rw [← hρ0, List.mem_map] at he
    obtain ⟨e0, _, rfl⟩ := he
    have hmem : g ∈ ops.toList.filterMap (·.dst) := List.mem_filterMap.2 ⟨o, Array.mem_toList_iff.2 (Array.mem_of_getElem? ho), hdst⟩
    unfold forgetL at hg
    split at hg
    · rename_i g' b' hg'
      split at hg
      · cases hg
      · rename_i hc
        rw [hg'] at hg
        cases hg
        exact hc (by simpa using hmem)
    · rename_i hno
      rw [hno] at hg
      cases hg
  have hnl : ∀ i, i < ops.size → ¬ Ld (Array.replicate ops.size false) i := by
    intro i hi; unfold Ld; simp [hi]
  refine walk (a0 := a) hE hC hF hR ops.size _ (List.range ops.size) a w.drew (by simp) (fun i o ho _ => by simpa using (Array.getElem?_eq_some_iff.1 ho).1) (by simp) (.inl ⟨μ, [], ofKind ops 1, own0, ?_⟩)
  have lt : ∀ {i : Nat} {o : Oper}, ops[i]? = some o → i < ops.size := fun ho => (Array.getElem?_eq_some_iff.1 ho).1
  refine ⟨(h.own.drew).more hpar.base, rfl, h.fr.trans Fr.drew, h.base, glo_keep Keeps.drew h.glo, h.dfr, h.size, hk, .inl rfl, by simp, fun x hx => ?_, fun i o ho hk _ => ofKind_mem.2 ⟨ho, hk⟩, ofKind_pair _ _,
    fun q hq hL => absurd hL (hnl _ (lt (hpin q hq).1)), fun t _ => rfl, fun k hk _ => h.fresh k hk, ?_, fun i o j ho hL => absurd hL (hnl _ (lt ho)), h.anc, fun i o ho _ => hnl _ (lt ho)⟩
  · obtain ⟨u1, u2⟩ := ofKind_mem.1 (show (x.1, x.2) ∈ ofKind ops 1 from hx)
    exact ⟨u1, u2, hnl _ (lt u1)⟩
  · rw [← hρ0]
    have he : EnvD w.drew (held A μ) μ a.tmps st.ρ := fun t e he => EntryOK.keep Keeps.drew (h.env t e he)
    exact forget_ok he
end

end Go.Proofs.YthfkpmobmnfgcaaDoor.V

/-
  Code over symbolic states, and a function's contract out of its code. Conditions: none.
-/
namespace Go.Proofs.YthfkpmobmnfgcaaDoor.V
open Go

structure Post where
  n : St → Prop
  x : Nat → St → Prop
  r : St → Prop

/-- A place that holds the nil slice where a loop begins: it is taken as an own row of no element. -/
inductive NL where
  | slot (t : Nat) (T : TypeId) (sz : Nat)
  | cell (k o : Nat) (T : TypeId) (sz : Nat)

def isNil : SV → Bool
  | .con (.slice none 0 0) => true
  | _ => false
theorem isNil_eq {s : SV} (h : isNil s = true) : s = .con (.slice none 0 0) := by
  unfold isNil at h
  split at h
  · rfl
  · cases h

def nil1 (n : NL) (st : St) : St := match n with
  | .slot t T sz => match look t st.ρ with
    | some e => match e.guard with
      | none => match isNil e.sv with
        | true => ⟨⟨t, none, .osl st.own.length⟩ :: st.ρ, st.own ++ [.row T sz 0 (fun _ => []) none]⟩
        | false => st
      | some _ => st
    | none => st
  | .cell k o T sz => match st.own[k]? with
    | some (.cells Tc cs) => match cs[o]? with
      | some s => match isNil s with
        | true => ⟨st.ρ, st.own.set k (.cells Tc (cs.set o (.osl st.own.length))) ++ [.row T sz 0 (fun _ => []) none]⟩
        | false => st
      | none => st
    | _ => st
def nilL : List NL → St → St
  | [], st => st
  | n :: r, st => nilL r (nil1 n st)

section
variable {E : Env} {B0 : Nat} {X A : Nat → Prop} {w0 : World} {nt : Nat} {st : St} {a : Act} {w : World} {μ : Mu}
theorem nil1_sound (h : SD E B0 X A w0 nt st a w μ) (n : NL) : ∃ μ', SD E B0 X A w0 nt (nil1 n st) a w μ' := by
  have hk : μ st.own.length = none := h.fresh _ (Nat.le_refl _)
  have hO : ∀ (T : TypeId) (sz : Nat), Own B0 X A w (μ.set st.own.length (.slice none 0 0)) (st.own ++ [.row T sz 0 (fun _ => []) none]) ∧ Keeps w w (held A μ) (held A (μ.set st.own.length (.slice none 0 0))) μ (μ.set st.own.length (.slice none 0 0)) :=
    fun T sz => own_nil (e := T) (sz := sz) (f := fun _ => []) (h.own.more app_get) hk (by simp)
  have hfr : ∀ k, st.own.length + 1 ≤ k → (μ.set st.own.length (.slice none 0 0)) k = none := fun k hk' => by
    unfold Mu.set; rw [if_neg (by omega)]; exact h.fresh k (by omega)
  have hanc : ∀ x, E.anc = some x → (μ.set st.own.length (.slice none 0 0)) 0 = some x := fun x hx => by
    have := h.anc x hx
    unfold Mu.set
    rw [if_neg (fun e => by rw [e, hk] at this; cases this)]
    exact this
  have hnew : (μ.set st.own.length (.slice none 0 0)) st.own.length = some (.slice none 0 0) := by simp [Mu.set]
  cases n with
  | slot t T sz =>
    simp only [nil1]
    split
    rotate_left
    · exact ⟨μ, h⟩
    rename_i e he
    split
    rotate_left
    · exact ⟨μ, h⟩
    rename_i hg
    split
    rotate_left
    · exact ⟨μ, h⟩
    rename_i hs
    obtain ⟨o1, o2⟩ := hO T sz
    refine ⟨_, o1, h.fr, h.base, glo_keep o2 h.glo, h.dfr, h.size, fun t' e' he' => ?_, fun k hk' => hfr k (by simpa using hk'), hanc⟩
    simp only [look] at he'
    split at he'
    · rename_i e1
      cases he'
      subst e1
      have := h.env t e he
      unfold EntryOK at this ⊢
      rw [hg] at this
      simp only at this ⊢
      rw [look_slot he] at this
      rw [isNil_eq hs] at this
      generalize a.tmps.getD t undef = v at this
      cases this
      exact .osl hnew
    · exact (h.env.keep o2) t' e' he'
  | cell k o T sz =>
    simp only [nil1]
    split
    rotate_left
    · exact ⟨μ, h⟩
    rename_i Tc cs hc
    split
    rotate_left
    · exact ⟨μ, h⟩
    rename_i s hs
    split
    rotate_left
    · exact ⟨μ, h⟩
    rename_i hn
    obtain ⟨o1, o2⟩ := hO T sz
    have hlt : k < st.own.length := (List.getElem?_eq_some_iff.1 hc).1
    refine ⟨_, ⟨fun j x hj => ?_, o1.inj, o1.rng, o1.bnd⟩, h.fr, h.base, glo_keep o2 h.glo, h.dfr, h.size, h.env.keep o2, fun k hk' => hfr k (by simpa using hk'), hanc⟩
    obtain ⟨bl, e1, hb⟩ := o1.blk j x hj
    by_cases e : j = k
    · subst e
      rw [List.getElem?_append_left hlt, hc] at e1
      cases e1
      refine ⟨.cells Tc (cs.set o (.osl st.own.length)), by rw [List.getElem?_append_left (by simpa using hlt)]; simp [hlt], ?_⟩
      obtain ⟨b, vs, rfl, hh, hl, h1, hd⟩ := hb
      refine ⟨b, vs, rfl, hh, by simpa using hl, h1, fun i s' v hs' hv => ?_⟩
      by_cases ei : i = o
      · subst ei
        have := hd i s v hs hv
        rw [isNil_eq hn] at this
        have hlt' : i < cs.length := (List.getElem?_eq_some_iff.1 hs).1
        rw [List.getElem?_set_self hlt'] at hs'
        cases hs'
        cases this
        exact .osl hnew
      · rw [List.getElem?_set_ne (Ne.symm ei)] at hs'
        exact hd i s' v hs' hv
    · refine ⟨bl, ?_, hb⟩
      by_cases hj' : j < st.own.length
      · rw [List.getElem?_append_left hj'] at e1
        rw [List.getElem?_append_left (by simpa using hj'), List.getElem?_set_ne (Ne.symm e)]
        exact e1
      · rw [List.getElem?_append_right (by omega)] at e1
        rw [List.getElem?_append_right (by simpa using hj')]
        simpa using e1
theorem nilL_sound (l : List NL) : ∀ {st : St} {μ : Mu}, SD E B0 X A w0 nt st a w μ → ∃ μ', SD E B0 X A w0 nt (nilL l st) a w μ' := by
  induction l with
  | nil => intro st μ h; exact ⟨μ, h⟩
  | cons n l ih => intro st μ h; obtain ⟨μ', h'⟩ := nil1_sound h n; exact ih h'
end

structure Inv where
  β : Type
  st : β → St
  ok : β → Prop
  μ : β → Nat
  nl : List NL := []
  sub : β → Option (Nat → Option Inv) := fun _ => none

def Br (b : Bool) (p q : Prop) : Prop := match b with
  | true => p
  | false => q
theorem Br.mk {b : Bool} {p q : Prop} (h : b = true → p) (k : b = false → q) : Br b p q := by cases b; exact k rfl; exact h rfl
theorem Br.t {p q : Prop} (h : Br true p q) : p := h
theorem Br.f {p q : Prop} (h : Br false p q) : q := h
attribute [irreducible] Br

def firstRegion : Code → Nat
  | .region id _ _ => id
  | .seq a _ => firstRegion a
  | .block _ c => firstRegion c
  | .loop c => firstRegion c
  | _ => 0

def codeOK : Code → Bool
  | .region _ ops d => !d || drawOK ops
  | .seq a b => codeOK a && codeOK b
  | .cond _ a b => codeOK a && codeOK b
  | .block _ c => codeOK c
  | .loop c => codeOK c
  | _ => true

def wpC (E : Env) (nt : Nat) (I : Nat → Option Inv) : Code → Post → St → Prop
  | .skip, Q, st => Q.n st
  | .region _ ops d, Q, st => match d with
    | true => drawK E nt ops Q.n st
    | false => seqK E nt ops Q.n ops.toList st
  | .seq a b, Q, st => wpC E nt I a ⟨fun st' => wpC E nt I b Q st', Q.x, Q.r⟩ st
  | .cond c x y, Q, st => match opd E st.ρ none c with
    | some (.bool b) => Br b (wpC E nt I x Q st) (wpC E nt I y Q st)
    | _ => False
  | .block i b, Q, st => wpC E nt I b ⟨Q.n, fun j st' => if j = i then Q.n st' else Q.x j st', Q.r⟩ st
  | .loop b, Q, st => match I (firstRegion b) with
    | some v => ∃ z, v.ok z ∧ Match (nilL v.nl st) (v.st z) ∧ ∀ z, v.ok z → match ancB E (v.st z) with
      | true => wpC E nt ((v.sub z).getD I) b ⟨fun st' => ∃ z', v.ok z' ∧ v.μ z' < v.μ z ∧ Match st' (v.st z'), Q.x, Q.r⟩ (v.st z)
      | false => False
    | none => False
  | .exit i, Q, st => Q.x i st
  | .ret, Q, st => Q.r st
  | _, _, _ => False

/-- A loop, by a relation that counts down. -/
theorem wp_loop_by {P : Program} {Q : Exit → Act → World → Prop} {c : Code} (J : Nat → Act → World → Prop)
    (round : ∀ n a w, J n a w → c.wp P (Exit.then (fun a' w' => ∃ m, m < n ∧ J m a' w') Q) a w) : ∀ n a w, J n a w → (Code.loop c).wp P Q a w := by
  intro n a w h b k cs
  have key : ∀ n a w, J n a w → ∃ e a' w', Q e a' w' ∧ Arrives P (lone (b.at a (.code c :: .inLoop c :: k)) cs w) b k cs e a' w' := by
    intro n
    induction n using Nat.strongRecOn with
    | _ n ih =>
      intro a w hI
      obtain ⟨e, a₁, w₁, hq, harr⟩ := round n a w hI b (.inLoop c :: k) cs
      cases e with
      | normal =>
        obtain ⟨m, hm, hI₁⟩ := hq
        obtain ⟨e₂, a₂, w₂, hq₂, harr₂⟩ := ih m hm a₁ w₁ hI₁
        exact ⟨e₂, a₂, w₂, hq₂, .of_steps (Steps.trans harr (.one step_inLoop)) harr₂⟩
      | exit id => exact ⟨_, a₁, w₁, hq, .pass (x := .inLoop c) rfl (fun _ _ => .inl (by simp)) harr⟩
      | goto l => exact ⟨_, a₁, w₁, hq, .pass (x := .inLoop c) rfl (fun _ _ => .inl (by simp)) harr⟩
      | ret => exact ⟨_, a₁, w₁, hq, .pass (x := .inLoop c) rfl (fun _ _ => .inl (by simp)) harr⟩
      | panic ch => exact ⟨_, a₁, w₁, hq, .pass (x := .inLoop c) rfl (fun _ _ => .inl (by simp)) harr⟩
      | outgrown => exact ⟨_, a₁, w₁, hq, .pass (x := .inLoop c) rfl (fun _ _ => .inl (by simp)) harr⟩
  obtain ⟨e, a', w', hq, harr⟩ := key n a w h
  exact ⟨e, a', w', hq, .of_steps (.one step_loop) harr⟩

section
variable {E : Env} {B0 : Nat} {X A : Nat → Prop} {w0 : World} {nt : Nat}

/-- What the code's end must be: as the post of the symbolic states says. -/
def PostOK (E : Env) (B0 : Nat) (X A : Nat → Prop) (w0 : World) (nt : Nat) (Q : Post) (R : Exit → Act → World → Prop) : Prop :=
  (∀ st a w μ, SD E B0 X A w0 nt st a w μ → Q.n st → R .normal a w) ∧ (∀ i st a w μ, SD E B0 X A w0 nt st a w μ → Q.x i st → R (.exit i) a w) ∧ (∀ st a w μ, SD E B0 X A w0 nt st a w μ → Q.r st → R .ret a w)

theorem seq_sound (hE : EnvOK E) (hC : CSound E) {ops : Array Oper} {R : Exit → Act → World → Prop} : ∀ (l : List Oper) (st : St) (a : Act) (w : World) (μ : Mu) (pre : Prop) (st' : St), SD E B0 X A w0 nt st a w μ → seqR E nt ops l st = some (pre, st') → pre →
    (∀ a' w' μ', SD E B0 X A w0 nt st' a' w' μ' → R .normal a' w') → wpList E.P ops R l a w := by
  intro l
  induction l with
  | nil =>
    intro st a w μ pre st' h he _ hR
    simp only [seqR, Option.some.injEq, Prod.mk.injEq] at he
    obtain ⟨_, rfl⟩ := he
    exact hR a w μ h
  | cons o l ih =>
    intro st a w μ pre st' h he hp hR
    simp only [seqR, Option.bind_eq_some_iff, Option.map_eq_some_iff, Prod.mk.injEq] at he
    obtain ⟨⟨p1, st1⟩, h1, ⟨p2, st2⟩, h2, rfl, rfl⟩ := he
    refine wpList_step (fun K hK => ?_)
    exact stepF_sound hE hC h h1 hp.1 (fun a' w' μ' hs => hK _ _ (ih st1 a' w' μ' p2 st2 hs h2 hp.2 hR))

theorem wpC_sound (hE : EnvOK E) (hC : CSound E) (hm : E.P.follows .mixedOrders = true) : ∀ (c : Code) (I : Nat → Option Inv) (Q : Post) (R : Exit → Act → World → Prop) (st : St) (a : Act) (w : World) (μ : Mu), codeOK c = true → SD E B0 X A w0 nt st a w μ → PostOK E B0 X A w0 nt Q R →
    wpC E nt I c Q st → c.wp E.P R a w := by
  intro c
  induction c with
  | skip => intro I Q R st a w μ _ h hQ hw; exact wp_skip (hQ.1 st a w μ h hw)
  | region id ops d =>
    intro I Q R st a w μ hco h hQ hw
    simp only [wpC] at hw
    cases d with
    | false =>
      obtain ⟨p, st', he, hp, hk⟩ := seqK_seqR _ _ hw
      exact wp_region_list (seq_sound hE hC _ st a w μ p st' h he hp (fun a' w' μ' hs => hQ.1 st' a' w' μ' hs hk))
    | true => exact draw_sound hE hC hm (by simpa [codeOK] using hco) h hw (fun st' a' w' μ' hs hk => hQ.1 st' a' w' μ' hs hk)
  | seq x y ihx ihy =>
    intro I Q R st a w μ hco h hQ hw
    simp only [codeOK, Bool.and_eq_true] at hco
    refine wp_seq (ihx I ⟨fun st' => wpC E nt I y Q st', Q.x, Q.r⟩ _ st a w μ hco.1 h ⟨fun st' a' w' μ' hs hn => ihy I Q R st' a' w' μ' hco.2 hs hQ hn, fun i st' a' w' μ' hs hn => hQ.2.1 i st' a' w' μ' hs hn, fun st' a' w' μ' hs hn => hQ.2.2 st' a' w' μ' hs hn⟩ hw)
  | cond c x y ihx ihy =>
    intro I Q R st a w μ hco h hQ hw
    simp only [codeOK, Bool.and_eq_true] at hco
    simp only [wpC] at hw
    split at hw
    · rename_i b hb
      have hd := h.opds (g := none) (fun q b e => by cases e) _ _ hb
      generalize hv : a.eval c = v at hd
      cases hd
      refine wp_cond hv ?_
      cases b
      · exact ihy I Q R st a w μ hco.2 h hQ hw.f
      · exact ihx I Q R st a w μ hco.1 h hQ hw.t
    · exact hw.elim
  | block i b ih =>
    intro I Q R st a w μ hco h hQ hw
    refine wp_block (ih I ⟨Q.n, fun j st' => if j = i then Q.n st' else Q.x j st', Q.r⟩ _ st a w μ (by simpa [codeOK] using hco) h ⟨fun st' a' w' μ' hs hn => hQ.1 st' a' w' μ' hs hn, fun j st' a' w' μ' hs hn => ?_, fun st' a' w' μ' hs hn => hQ.2.2 st' a' w' μ' hs hn⟩ hw)
    show (if j = i then R .normal a' w' else R (.exit j) a' w')
    split
    · rename_i e
      exact hQ.1 st' a' w' μ' hs (by simpa [e] using hn)
    · rename_i e
      replace hn : Q.x j st' := by simpa [e] using hn
      exact hQ.2.1 j st' a' w' μ' hs hn
  | loop b ih =>
    intro I Q R st a w μ hco h hQ hw
    simp only [wpC] at hw
    split at hw
    rotate_left
    · exact hw.elim
    rename_i v hv
    obtain ⟨z, hz, hm', hround'⟩ := hw
    have hround : ∀ z, v.ok z → ancB E (v.st z) = true ∧ wpC E nt ((v.sub z).getD I) b ⟨fun st' => ∃ z', v.ok z' ∧ v.μ z' < v.μ z ∧ Match st' (v.st z'), Q.x, Q.r⟩ (v.st z) := by
      intro z hz
      have := hround' z hz
      split at this
      · rename_i e; exact ⟨e, this⟩
      · exact this.elim
    obtain ⟨μ0, h0⟩ := nilL_sound v.nl h
    obtain ⟨μ', h'⟩ := match_sound h0 hm' (hround z hz).1
    refine wp_loop_by (fun n a' w' => ∃ z μ'', v.ok z ∧ v.μ z = n ∧ SD E B0 X A w0 nt (v.st z) a' w' μ'') (fun n a' w' hJ => ?_) (v.μ z) a w ⟨z, μ', hz, rfl, h'⟩
    obtain ⟨z', μ'', hz', rfl, hs⟩ := hJ
    refine ih ((v.sub z').getD I) ⟨fun st' => ∃ z2, v.ok z2 ∧ v.μ z2 < v.μ z' ∧ Match st' (v.st z2), Q.x, Q.r⟩ _ (v.st z') a' w' μ'' (by simpa [codeOK] using hco) hs ⟨fun st2 a2 w2 μ2 hs2 hn => ?_, fun i st2 a2 w2 μ2 hs2 hn => hQ.2.1 i st2 a2 w2 μ2 hs2 hn, fun st2 a2 w2 μ2 hs2 hn => hQ.2.2 st2 a2 w2 μ2 hs2 hn⟩ (hround z' hz').2
    obtain ⟨z2, hok2, hlt, hm2⟩ := hn
    obtain ⟨μ3, h3⟩ := match_sound hs2 hm2 (hround z2 hok2).1
    exact ⟨v.μ z2, hlt, z2, μ3, hok2, rfl, h3⟩
  | exit i => intro I Q R st a w μ _ h hQ hw; exact wp_exit (hQ.2.1 i st a w μ h hw)
  | ret => intro I Q R st a w μ _ h hQ hw; exact wp_ret (hQ.2.2 st a w μ h hw)
  | rangeFunc f p x y _ _ => intro I Q R st a w μ _ h hQ hw; exact hw.elim
  | scope b _ => intro I Q R st a w μ _ h hQ hw; exact hw.elim
  | label l => intro I Q R st a w μ _ h hQ hw; exact hw.elim
  | goto l => intro I Q R st a w μ _ h hQ hw; exact hw.elim
  | refuse s => intro I Q R st a w μ _ h hQ hw; exact hw.elim
end

end Go.Proofs.YthfkpmobmnfgcaaDoor.V

/-
  A function's contract, out of its code. Conditions: none.
-/
namespace Go.Proofs.YthfkpmobmnfgcaaDoor.V
open Go

def le2L : List SV → List SV → Prop
  | [], [] => True
  | s :: r, t :: q => s.le2 t ∧ le2L r q
  | _, _ => False

theorem le2L_get : ∀ {cs cs' : List SV}, le2L cs cs' → cs.length = cs'.length ∧ ∀ (i : Nat) (t : SV), cs'[i]? = some t → ∃ s, cs[i]? = some s ∧ s.le2 t
  | [], [], _ => ⟨rfl, fun i t h => by simp at h⟩
  | s :: r, t :: q, h => by
    obtain ⟨h1, h2⟩ := le2L_get h.2
    refine ⟨by simp [h1], fun i t' ht => ?_⟩
    match i with
    | 0 => simp at ht; subst ht; exact ⟨s, rfl, h.1⟩
    | i + 1 => simpa using h2 i t' (by simpa using ht)
  | [], _ :: _, h => h.elim
  | _ :: _, [], h => h.elim

def initE (n : Nat) : List SV → List Entry
  | [] => []
  | s :: r => ⟨n, none, s⟩ :: initE (n + 1) r

theorem look_init {t : Nat} {e : Entry} : ∀ (l : List SV) (n : Nat), look t (initE n l) = some e → e.guard = none ∧ n ≤ t ∧ l[t - n]? = some e.sv := by
  intro l
  induction l with
  | nil => intro n h; simp [initE, look] at h
  | cons s r ih =>
    intro n h
    simp only [initE, look] at h
    split at h
    · rename_i e1
      cases h
      subst e1
      exact ⟨rfl, Nat.le_refl _, by simp⟩
    · obtain ⟨h1, h2, h3⟩ := ih (n + 1) h
      refine ⟨h1, by omega, ?_⟩
      rw [show t - n = (t - (n + 1)) + 1 from by omega]
      simpa using h3

/-- One result. -/
def resOne (E : Env) (st : St) : ResultVar → Option SV
  | .tmp t => (opd E st.ρ none (.tmp t)).bind (SV.roA st.own)
  | .cell t T => (opd E st.ρ none (.tmp t)).bind fun p => match p with
    | .own k o => (evLoad E.P st.own T (.own k o)).bind fun r => r.2.roA st.own
    | _ => none
def resSV (E : Env) (fn : Func) (st : St) : Option SV := match fn.results.toList with
  | [r] => resOne E st r
  | rs => (rs.mapM (resOne E st)).map .tup

def retP (E : Env) (fn : Func) (s : SV) (st : St) : Prop := match resSV E fn st with
  | some r => r.le2 s
  | none => False

structure Fam where
  ι : Type
  args : ι → List SV
  pre : ι → Prop
  res : ι → SV

def Law (F : Fam) (k : List SV → Option (Prop × SV)) : Prop := ∀ zs p s, k zs = some (p, s) → p → ∃ i, le2L zs (F.args i) ∧ F.pre i ∧ s = F.res i

section
variable {E : Env}

def resRun (tmps : Array Value) : ResultVar → Sem Value
  | .tmp t => pure (tmps.getD t undef)
  | .cell a t => do loadVar t (← asAddr (tmps.getD a undef))

theorem results_eq (fn : Func) (tmps : Array Value) : results fn tmps = (do let vs ← fn.results.mapM (resRun tmps); pure (if h : vs.size = 1 then vs[0] else .tuple vs)) := by
  unfold results
  have : resRun tmps = fun (r : ResultVar) => (match r with
    | .tmp t => pure (tmps.getD t undef)
    | .cell a t => do loadVar t (← asAddr (tmps.getD a undef)) : Sem Value) := by
    funext r
    cases r <;> rfl
  rw [this]
  rfl

variable {B0 : Nat} {X A : Nat → Prop} {w0 : World} {nt : Nat} {st : St} {a : Act} {w : World} {μ : Mu}

theorem run_resOne (h : SD E B0 X A w0 nt st a w μ) {r : ResultVar} {s : SV} (he : resOne E st r = some s) : ∃ v, (resRun a.tmps r).run E.P w = .ok v w ∧ D w A Nobody s v := by
  have hρ := h.opds (g := none) (fun q b e => by cases e)
  have ro : ∀ {s t : SV} {v : Value}, D w (held A μ) μ s v → s.roA st.own = some t → D w A Nobody t v := fun hd hr => roA_sound h.own (fun _ _ h => h) (fun _ h => .inl h) hd hr (fun _ _ h => h)
  cases r with
  | tmp t =>
    simp only [resOne, Option.bind_eq_some_iff] at he
    obtain ⟨s0, h0, he⟩ := he
    exact ⟨_, rfl, ro (hρ _ _ h0) he⟩
  | cell t T =>
    simp only [resOne, Option.bind_eq_some_iff] at he
    obtain ⟨p, hp, he⟩ := he
    split at he
    · rename_i k o
      simp only [Option.bind_eq_some_iff] at he
      obtain ⟨⟨q, s0⟩, hl, he⟩ := he
      have hq : q := by
        simp only [evLoad, Option.bind_eq_bind, Option.bind_eq_some_iff, Option.some.injEq, Prod.mk.injEq] at hl
        obtain ⟨n, _, cs, _, s', _, rfl, _⟩ := hl
        exact trivial
      have hd0 := hρ _ _ hp
      obtain ⟨u, hu, hd⟩ := load_sound h.own (fun _ _ h => h) hd0 hl hq
      refine ⟨u, ?_, ro hd he⟩
      generalize hv : a.eval (.tmp t) = v at hd0 hu
      have hv' : a.tmps.getD t undef = v := hv
      cases hd0 with
      | own hk =>
        simp only [resRun, hv', asAddr, Sem.run_bind, Sem.run_pure, Result.andThen_ok]
        simpa [Instr.loadAt, Instr.sureAddr] using hu
    · cases he

theorem run_resList (h : SD E B0 X A w0 nt st a w μ) : ∀ (l : List ResultVar) (ss : List SV), l.mapM (resOne E st) = some ss → ∃ vs, (l.mapM (resRun a.tmps)).run E.P w = .ok vs w ∧ DL w A Nobody ss vs := by
  intro l
  induction l with
  | nil => intro ss h; simp at h; subst h; exact ⟨[], by simp, rfl, fun i s v h => by simp at h⟩
  | cons r l ih =>
    intro ss hs
    simp only [List.mapM_cons, Option.bind_eq_bind, Option.bind_eq_some_iff, Option.pure_def, Option.some.injEq] at hs
    obtain ⟨s1, h1, ss', h2, rfl⟩ := hs
    obtain ⟨v, hv, hd⟩ := run_resOne h h1
    obtain ⟨vs, hvs, hD⟩ := ih ss' h2
    refine ⟨v :: vs, by rw [List.mapM_cons, Sem.run_bind, hv, Result.andThen_ok, Sem.run_bind, hvs, Result.andThen_ok, Sem.run_pure], by simp [hD.1], fun i s v' hs hv' => ?_⟩
    match i with
    | 0 => simp at hs hv'; subst hs hv'; exact hd
    | i + 1 => exact hD.2 i s v' (by simpa using hs) (by simpa using hv')

theorem run_results (h : SD E B0 X A w0 nt st a w μ) {fn : Func} {s : SV} (he : resSV E fn st = some s) : ∃ v, (results fn a.tmps).run E.P w = .ok v w ∧ D w A Nobody s v := by
  rw [results_eq, Sem.run_bind, Array.mapM_eq_mapM_toList, Sem.run_map]
  unfold resSV at he
  split at he
  · rename_i r hr
    obtain ⟨v, hv, hd⟩ := run_resOne h he
    refine ⟨v, ?_, hd⟩
    rw [hr, List.mapM_cons, Sem.run_bind, hv]
    simp
  · rename_i rs hne
    simp only [Option.map_eq_some_iff] at he
    obtain ⟨ss, hss, rfl⟩ := he
    obtain ⟨vs, hvs, hD⟩ := run_resList h _ ss hss
    refine ⟨.tuple vs.toArray, ?_, .tup vs hD.1 hD.2⟩
    rw [hvs]
    obtain ⟨l1, _⟩ := mapM_get hss
    have hlen : vs.length ≠ 1 := by
      rw [hD.1, l1]
      intro h1
      match hl : fn.results.toList, h1 with
      | [r], _ => exact hne r hl
    simp [hlen]

/-- A contract, out of the code. -/
theorem verify {P : Program} {glob : Nat → Option SV} {f : FuncId} {fn : Func} {code : Code} (E : Env) (hEP : E.P = P) (hEg : E.glob = glob) (hEa : E.anc = none) (hE : EnvOK E) (hC : CSound E) (hm : P.follows .mixedOrders = true) (hf : P.funcs[f]? = some fn) (hb : fn.body = some code) (hn : (fn.name == "runtime.NumGoroutine") = false)
    (F : Fam) (I : F.ι → Nat → Option Inv) (k : List SV → Option (Prop × SV)) (hk : Law F k) (hlen : ∀ i, (F.args i).length ≤ fn.ntmps) (hco : codeOK code = true)
    (H : ∀ i, F.pre i → wpC E fn.ntmps (I i) code ⟨retP E fn (F.res i), fun _ _ => False, retP E fn (F.res i)⟩ ⟨initE 0 (F.args i), []⟩) : PSound P glob f k := by
  subst hEP hEg
  refine ⟨⟨fn, hf, hn, by rw [hb]; rfl⟩, fun A w args vals pre s hA hg hD hr hp => ?_⟩
  obtain ⟨i, hle, hpre, rfl⟩ := hk args pre s hr hp
  obtain ⟨l1, l2⟩ := le2L_get hle
  have hvl : vals.length ≤ fn.ntmps := by rw [hD.1, l1]; exact hlen i
  refine calls_of_wp hf hb ?_
  have hS : SD E w.heap.size (fun _ => False) A w fn.ntmps ⟨initE 0 (F.args i), []⟩ { tmps := vals.toArray ++ Array.replicate (fn.ntmps - vals.toArray.size) undef, defers := [] } w Nobody := by
    refine ⟨⟨fun k x h => (by cases h), fun k k' x x' b h => (by cases h), fun k x b h => (by cases h), hA⟩, Fr.refl _ _ _, Nat.le_refl _, fun g s hgs => ⟨(hg g s hgs).1, ?_⟩, rfl, by simp; omega, fun t e he => ?_, fun _ _ => rfl, fun x hx => by rw [hEa] at hx; cases hx⟩
    · exact pure_mono (fun b hb => by rcases hb with hb | ⟨k, x, hk, _⟩; exact hb; cases hk) (hg g s hgs).2 (hg g s hgs).1
    · obtain ⟨h1, _, h3⟩ := look_init _ _ he
      unfold EntryOK
      rw [h1]
      simp only
      rw [look_slot he]
      have hlt : t < (F.args i).length := (List.getElem?_eq_some_iff.1 h3).1
      obtain ⟨s0, hs0, hle0⟩ := l2 t e.sv (by simpa using h3)
      have hvt : t < vals.length := by rw [hD.1, l1]; exact hlt
      have hd := hD.2 t s0 vals[t] hs0 (List.getElem?_eq_getElem hvt)
      have hget : (vals.toArray ++ Array.replicate (fn.ntmps - vals.toArray.size) undef).getD t undef = vals[t] := by
        simp [Array.getElem?_append, hvt]
      rw [hget]
      have := le2_sound hd hle0
      exact this.keep ⟨Nat.le_refl _, fun _ _ _ => rfl, fun b _ hb => (by rcases hb with hb | ⟨k, x, hk, _⟩; exact hb; cases hk), fun _ _ h => (by cases h)⟩
  refine wpC_sound hE hC hm code (I i) ⟨retP E fn (F.res i), fun _ _ => False, retP E fn (F.res i)⟩ _ _ _ w Nobody hco hS ⟨fun st a w' μ hs hr => ?_, fun i st a w' μ hs hr => hr.elim, fun st a w' μ hs hr => ?_⟩ (H i hpre)
  all_goals
    replace hr : retP E fn (F.res i) st := hr
    unfold retP at hr
    split at hr
    · rename_i r hres
      obtain ⟨v, hv, hd⟩ := run_results hs hres
      exact ⟨hs.dfr, v, hv, v, rfl, le2_sound hd hr, hs.fr⟩
    · exact hr.elim
end

end Go.Proofs.YthfkpmobmnfgcaaDoor.V

/-
  A function that rewrites the row of its first argument: its contract, out of its code. Conditions: none.
-/
namespace Go.Proofs.YthfkpmobmnfgcaaDoor.V
open Go

structure FamE where
  ι : Type
  T : TypeId
  sz : Nat
  r : Bool
  n : ι → Nat
  g : ι → Nat → List SV
  rest : ι → List SV
  pre : ι → Prop
  g' : ι → Nat → List SV

def LawE (F : FamE) (e : EffK) : Prop := ∀ T sz n g rest p g' r, e T sz n g rest = some (p, g', r) → p → ∃ i, T = F.T ∧ sz = F.sz ∧ n = F.n i ∧ (∀ j, j < n → g j = F.g i j) ∧ le2L rest (F.rest i) ∧ F.pre i ∧ (∀ j, j < n → F.g' i j = g' j) ∧ r = F.r

def retE (E : Env) (fn : Func) (F : FamE) (i : F.ι) (c : Option Nat) (st : St) : Prop :=
  (match st.own with
    | .row T sz n g2 c2 :: _ => T = F.T ∧ sz = F.sz ∧ n = F.n i ∧ c2 = c ∧ ∀ j, j < n → g2 j = F.g' i j
    | _ => False) ∧
  match F.r with
  | true => match fn.results.toList with
    | [.tmp t] => match opd E st.ρ none (.tmp t) with
      | some (.osl k) => k = 0
      | _ => False
    | _ => False
  | false => fn.results.toList = []

theorem BlkOK.row_ext {w : World} {H : Nat → Prop} {μ : Mu} {x : Value} {T : TypeId} {sz n : Nat} {f f' : Nat → List SV} {c : Option Nat} (hf : ∀ j, j < n → f j = f' j) (h : BlkOK w H μ x (.row T sz n f c)) : BlkOK w H μ x (.row T sz n f' c) := by
  obtain ⟨a, m, rfl, hn, hm, hc, hl, h⟩ := h
  refine ⟨a, m, rfl, hn, hm, hc, fun i hi => by rw [← hf i hi]; exact hl i hi, ?_⟩
  rcases h with h | ⟨b, o, vs, rfl, hh, ho, h1, hd⟩
  · exact .inl h
  · exact .inr ⟨b, o, vs, rfl, hh, ho, h1, fun i j s v hi hs hv => hd i j s v hi (by rw [hf i hi]; exact hs) hv⟩

theorem verifyE {P : Program} {glob : Nat → Option SV} {f : FuncId} {fn : Func} {code : Code} (E : Value → Env) (hEP : ∀ v, (E v).P = P) (hEg : ∀ v, (E v).glob = glob) (hEa : ∀ v, (E v).anc = some v) (hE : ∀ v, EnvOK (E v)) (hC : ∀ v, CSound (E v)) (hm : P.follows .mixedOrders = true)
    (hf : P.funcs[f]? = some fn) (hb : fn.body = some code) (hn : (fn.name == "runtime.NumGoroutine") = false) (F : FamE) (I : Option Nat → F.ι → Nat → Option Inv) (e : EffK) (he : LawE F e) (hlen : ∀ i, (F.rest i).length + 1 ≤ fn.ntmps) (hco : codeOK code = true)
    (H : ∀ v c i, F.pre i → wpC (E v) fn.ntmps (I c i) code ⟨retE (E v) fn F i c, fun _ _ => False, retE (E v) fn F i c⟩ ⟨initE 0 (.osl 0 :: F.rest i), [.row F.T F.sz (F.n i) (F.g i) c]⟩) : ESound P glob f e := by
  refine ⟨⟨fn, hf, hn, by rw [hb]; rfl⟩, fun A w v T sz n g c rest vals pre g' r hA hv hg hB hD hr hp => ?_⟩
  have hEP' := hEP v
  subst hEP'
  obtain ⟨i, rfl, rfl, rfl, hgi, hle, hpre, hg', rfl⟩ := he T sz n g rest pre g' r hr hp
  obtain ⟨l1, l2⟩ := le2L_get hle
  have hvl : (v :: vals).length ≤ fn.ntmps := by
    have := hlen i
    simp only [List.length_cons]
    rw [hD.1, l1]; omega
  refine calls_of_wp hf hb ?_
  have hB' := hB.row_ext hgi
  have hS : SD (E v) w.heap.size (fun b => blkOf v = some b) A w fn.ntmps ⟨initE 0 (.osl 0 :: F.rest i), [.row F.T F.sz (F.n i) (F.g i) c]⟩ { tmps := (v :: vals).toArray ++ Array.replicate (fn.ntmps - (v :: vals).toArray.size) undef, defers := [] } w (Solo v) := by
    refine ⟨⟨fun k x h => ?_, fun k k' x x' b h h' _ _ => ?_, fun k x b h hb => ?_, hA⟩, Fr.refl _ _ _, Nat.le_refl _, fun q s hgs => ?_, rfl, by simp only [Array.size_append, Array.size_replicate, List.size_toArray]; omega, fun t e he => ?_, fun k hk => ?_, fun x hx => ?_⟩
    · unfold Solo at h
      split at h
      · rename_i e; subst e; cases h; exact ⟨_, rfl, hB'⟩
      · cases h
    · unfold Solo at h h'
      split at h <;> split at h'
      · omega
      · cases h'
      · cases h
      · cases h
    · unfold Solo at h
      split at h
      · cases h; exact ⟨(hv b hb).1, (hv b hb).2, .inr hb⟩
      · cases h
    · rw [hEg] at hgs
      exact ⟨(hg q s hgs).1, pure_mono (fun _ h => h) (hg q s hgs).2 (hg q s hgs).1⟩
    · obtain ⟨h1, _, h3⟩ := look_init _ _ he
      unfold EntryOK
      rw [h1]
      simp only
      rw [look_slot he]
      simp only [Nat.sub_zero] at h3
      have hget : ((v :: vals).toArray ++ Array.replicate (fn.ntmps - (v :: vals).toArray.size) undef).getD t undef = (v :: vals).getD t undef := by
        have : t < (SV.osl 0 :: F.rest i).length := (List.getElem?_eq_some_iff.1 h3).1
        have h' : t < (v :: vals).length := by simp only [List.length_cons] at this ⊢; rw [hD.1, l1]; exact this
        simp only [Array.getD_eq_getD_getElem?, Array.getElem?_append, List.size_toArray, h', if_true, List.getD_eq_getElem?_getD]
        simp
      rw [hget]
      match t, h3 with
      | 0, h3 =>
        simp only [List.getElem?_cons_zero, Option.some.injEq] at h3
        rw [← h3]
        obtain ⟨a, m, rfl, _⟩ := hB
        exact .osl rfl
      | t + 1, h3 =>
        simp only [List.getElem?_cons_succ] at h3
        have hlt : t < (F.rest i).length := (List.getElem?_eq_some_iff.1 h3).1
        obtain ⟨s0, hs0, hle0⟩ := l2 t e.sv h3
        have hvt : t < vals.length := by rw [hD.1, l1]; exact hlt
        have hd := hD.2 t s0 vals[t] hs0 (List.getElem?_eq_getElem hvt)
        have : (v :: vals).getD (t + 1) undef = vals[t] := by simp [List.getD_eq_getElem?_getD, hvt]
        rw [this]
        exact (le2_sound hd hle0).keep ⟨Nat.le_refl _, fun _ _ _ => rfl, fun b _ hb => hb, fun _ _ h => (by cases h)⟩
    · simp only [List.length_cons, List.length_nil] at hk
      unfold Solo; rw [if_neg (by omega)]
    · rw [hEa] at hx
      cases hx
      rfl
  refine wpC_sound (hE v) (hC v) hm code (I c i) ⟨retE (E v) fn F i c, fun _ _ => False, retE (E v) fn F i c⟩ _ _ _ w (Solo v) hco hS ⟨fun st a w' μ hs hr => ?_, fun i st a w' μ hs hr => hr.elim, fun st a w' μ hs hr => ?_⟩ (H v c i hpre)
  all_goals
    replace hr : retE (E v) fn F i c st := hr
    obtain ⟨hr1, hr2⟩ := hr
    have hμ := hs.anc v (hEa v)
    obtain ⟨bl, e1, hok⟩ := hs.own.blk 0 v hμ
    have hrow : BlkOK w' (held A (Solo v)) (Solo v) v (.row F.T F.sz (F.n i) g' c) := by
      split at hr1
      · rename_i T sz n g2 c2 own' hown
        obtain ⟨rfl, rfl, rfl, rfl, hg2⟩ := hr1
        rw [hown] at e1
        cases e1
        refine (hok.row_mono (H' := held A (Solo v)) (μ' := Solo v) (fun b hb => ?_)).row_ext (fun j hj => (hg2 j hj).trans (hg' j hj))
        rcases hb with hb | ⟨j, y, hj, hy⟩
        · exact .inl hb
        · unfold Solo at hj
          split at hj
          · cases hj; exact .inr ⟨0, v, hμ, hy⟩
          · cases hj
      · exact hr1.elim
    have hfr := hs.fr
    cases hFr : F.r with
    | true =>
      rw [hFr] at hr2
      simp only at hr2
      split at hr2
      · rename_i t ht
        split at hr2
        · rename_i k hk
          subst hr2
          have hd := hs.opds (g := none) (fun q b e => by cases e) _ _ hk
          have hres : (results fn a.tmps).run (E v).P w' = .ok (a.tmps.getD t undef) w' := by
            rw [results_eq, Sem.run_bind, Array.mapM_eq_mapM_toList, Sem.run_map, ht, List.mapM_cons]
            simp [resRun]
          refine ⟨hs.dfr, _, hres, _, rfl, fun _ => ?_, fun h => (by cases h), hrow, hfr⟩
          have hv' : a.eval (.tmp t) = a.tmps.getD t undef := rfl
          rw [hv'] at hd
          generalize a.tmps.getD t undef = u at hd
          cases hd with
          | osl h => rw [hμ] at h; cases h; rfl
        · exact hr2.elim
      · exact hr2.elim
    | false =>
      rw [hFr] at hr2
      simp only at hr2
      have hres : (results fn a.tmps).run (E v).P w' = .ok (.tuple #[]) w' := by
        rw [results_eq, Sem.run_bind, Array.mapM_eq_mapM_toList, Sem.run_map, hr2]
        simp
      exact ⟨hs.dfr, _, hres, _, rfl, fun h => (by cases h), fun _ => rfl, hrow, hfr⟩

end Go.Proofs.YthfkpmobmnfgcaaDoor.V

/-
  The program's environment for the logic. Conditions: none.
-/
namespace Go.Proofs.YthfkpmobmnfgcaaDoor.V
open Go

def stT : TypeId → Bool := fun t => [26, 77, 83, 98, 55, 62].contains t

def tb (l : List Int) (i : Nat) : Int := l.getD i 0
def quartersRow (i : Nat) : List SV := [.int .i64 (tb [0, 1, 0, -1] i), .int .i64 (tb [-1, 0, 1, 0] i), .int .u8 (tb [2, 1, 2, 1] i), .int .i64 (tb [0, 1, 1, 0] i),
  .int .i64 (tb [0, 1, 0, -1] i), .int .i64 (tb [-1, 0, 1, 0] i), .int .u8 (tb [2, 3, 0, 1] i), .int .i64 (tb [0, 0, 0, 0] i), .int .i64 (tb [0, 0, 0, 0] i), .int .u8 (tb [1, 0, 3, 2] i), .int .i64 (tb [0, 0, 0, 0] i), .int .i64 (tb [0, 0, 0, 0] i), .int .u8 (tb [3, 2, 1, 0] i),
  .int .i64 (tb [0, 2, 2, 0] i), .int .i64 (tb [0, 2, 2, 0] i), .int .i64 (tb [2, 2, 0, 0] i), .int .i64 (tb [0, 0, 2, 2] i)]
def innerRow (i : Nat) : List SV := [.int .i64 (tb [0, 1, 0, -1] i), .int .i64 (tb [-1, 0, 1, 0] i)]
def turnedRow (i : Nat) : List SV := [.clo (95 + i) []]

def glob0 : Nat → Option SV
  | 0 => some (.rel 2 4 innerRow 0 0)
  | 1 => some (.rel 1 8 turnedRow 0 0)
  | 2 => some (.rel 17 4 quartersRow 0 0)
  | _ => none

abbrev Kon := List SV → Option (Prop × SV)
def tab (l : List (FuncId × Kon)) : FuncId → Option Kon := fun f => match l with
  | [] => none
  | (g, k) :: r => if g == f then some k else tab r f

def tabX (l : List (FuncId × EffK)) : FuncId → Option EffK := fun f => match l with
  | [] => none
  | (g, k) :: r => if g == f then some k else tabX r f

noncomputable def EX (l : List (FuncId × Kon)) (x : List (FuncId × EffK)) (fz : Nat → Bool) (anc : Option Value) : Env := { P := Go.Proofs.Tryd.prog, C := tab l, glob := glob0, ng := 0, st := stT, X := tabX x, fz := fz, anc := anc }
noncomputable abbrev E0 (l : List (FuncId × Kon)) : Env := EX l [] (fun _ => false) none

abbrev PS (f : FuncId) (k : Kon) : Prop := PSound Go.Proofs.Tryd.prog glob0 f k

abbrev ES (f : FuncId) (e : EffK) : Prop := ESound Go.Proofs.Tryd.prog glob0 f e

theorem tab_sound {l : List (FuncId × Kon)} {x : List (FuncId × EffK)} {fz : Nat → Bool} {anc : Option Value} (h : ∀ x ∈ l, PS x.1 x.2) (hx : ∀ y ∈ x, ES y.1 y.2) : CSound (EX l x fz anc) := by
  refine ⟨?_, ?_⟩
  rotate_left
  · intro f k hk
    have key : ∀ (l : List (FuncId × EffK)), (∀ x ∈ l, ES x.1 x.2) → tabX l f = some k → ES f k := by
      intro l
      induction l with
      | nil => intro _ h; cases h
      | cons x l ih =>
        intro h hk
        simp only [tabX] at hk
        split at hk
        · rename_i e
          cases hk
          have := h x (by simp)
          rw [beq_iff_eq.1 e] at this
          exact this
        · exact ih (fun y hy => h y (by simp [hy])) hk
    exact key x hx hk
  intro f k hk
  have key : ∀ (l : List (FuncId × Kon)), (∀ x ∈ l, PS x.1 x.2) → tab l f = some k → PS f k := by
    intro l
    induction l with
    | nil => intro _ h; cases h
    | cons x l ih =>
      intro h hk
      simp only [tab] at hk
      split at hk
      · rename_i e
        cases hk
        have := h x (by simp)
        rw [beq_iff_eq.1 e] at this
        exact this
      · exact ih (fun y hy => h y (by simp [hy])) hk
  exact key l h hk

def stOK (P : Program) (T : TypeId) : Bool := !P.stoodInHeld T && !P.eqGuardType P.depth T && match P.underlying T with
  | some (.struct fs) => fs.toList.all fun f => f.name != "_"
  | _ => false
theorem stOK_spec {P : Program} {T : TypeId} (h : stOK P T = true) : P.stoodInHeld T = false ∧ P.eqGuardType P.depth T = false ∧ ∃ fs, P.underlying T = some (.struct fs) ∧ ∀ f ∈ fs.toList, f.name ≠ "_" := by
  unfold stOK at h
  simp only [Bool.and_eq_true, Bool.not_eq_true'] at h
  obtain ⟨⟨h1, h2⟩, h3⟩ := h
  refine ⟨h1, h2, ?_⟩
  split at h3
  · rename_i fs hfs
    refine ⟨fs, hfs, fun f hf => ?_⟩
    have := List.all_eq_true.1 h3 f hf
    simpa using this
  · cases h3

theorem EX_ok (l : List (FuncId × Kon)) (x : List (FuncId × EffK)) (fz : Nat → Bool) (anc : Option Value) : EnvOK (EX l x fz anc) := by
  refine ⟨fun T hT => stOK_spec ?_⟩
  have hT : stT T = true := hT
  have : T ∈ [26, 77, 83, 98, 55, 62] := by
    unfold stT at hT
    exact List.contains_iff_mem.1 hT
  simp only [List.mem_cons, List.not_mem_nil, or_false] at this
  show stOK Go.Proofs.Tryd.prog T = true
  rcases this with rfl | rfl | rfl | rfl | rfl | rfl
  all_goals kernel_rfl

theorem mixed : Go.Proofs.Tryd.prog.follows .mixedOrders = true := by kernel_rfl

end Go.Proofs.YthfkpmobmnfgcaaDoor.V

/-
  A contract of the program's, out of its code; rows of creases as lists. Conditions: none.
-/
namespace Go.Proofs.YthfkpmobmnfgcaaDoor.V
open Go

theorem conX {f : FuncId} {fn : Func} (l : List (FuncId × Kon)) (hl : ∀ x ∈ l, PS x.1 x.2) (x : List (FuncId × EffK)) (hx : ∀ y ∈ x, ES y.1 y.2) (fz : Nat → Bool) (F : Fam) (I : F.ι → Nat → Option Inv) (k : Kon) (hk : Law F k) (hlen : ∀ i, (F.args i).length ≤ fn.ntmps)
    (hf : Go.Proofs.Tryd.prog.funcs[f]? = some fn) (hb : fn.body.isSome = true) (hn : (fn.name == "runtime.NumGoroutine") = false) (hco : codeOK (fn.body.getD .skip) = true)
    (H : ∀ i, F.pre i → wpC (EX l x fz none) fn.ntmps (I i) (fn.body.getD .skip) ⟨retP (EX l x fz none) fn (F.res i), fun _ _ => False, retP (EX l x fz none) fn (F.res i)⟩ ⟨initE 0 (F.args i), []⟩) : PS f k := by
  cases hbb : fn.body with
  | none => rw [hbb] at hb; cases hb
  | some code =>
    rw [hbb] at hco H
    exact verify (EX l x fz none) rfl rfl rfl (EX_ok l x fz none) (tab_sound hl hx) mixed hf hbb hn F I k hk hlen hco H

theorem con {f : FuncId} {fn : Func} (l : List (FuncId × Kon)) (hl : ∀ x ∈ l, PS x.1 x.2) (F : Fam) (I : F.ι → Nat → Option Inv) (k : Kon) (hk : Law F k) (hlen : ∀ i, (F.args i).length ≤ fn.ntmps)
    (hf : Go.Proofs.Tryd.prog.funcs[f]? = some fn) (hb : fn.body.isSome = true) (hn : (fn.name == "runtime.NumGoroutine") = false) (hco : codeOK (fn.body.getD .skip) = true)
    (H : ∀ i, F.pre i → wpC (E0 l) fn.ntmps (I i) (fn.body.getD .skip) ⟨retP (E0 l) fn (F.res i), fun _ _ => False, retP (E0 l) fn (F.res i)⟩ ⟨initE 0 (F.args i), []⟩) : PS f k :=
  conX l hl [] (by simp) (fun _ => false) F I k hk hlen hf hb hn hco H

theorem conE {f : FuncId} {fn : Func} (l : List (FuncId × Kon)) (hl : ∀ x ∈ l, PS x.1 x.2) (x : List (FuncId × EffK)) (hx : ∀ y ∈ x, ES y.1 y.2) (fz : Nat → Bool) (F : FamE) (I : Option Nat → F.ι → Nat → Option Inv) (e : EffK) (he : LawE F e) (hlen : ∀ i, (F.rest i).length + 1 ≤ fn.ntmps)
    (hf : Go.Proofs.Tryd.prog.funcs[f]? = some fn) (hb : fn.body.isSome = true) (hn : (fn.name == "runtime.NumGoroutine") = false) (hco : codeOK (fn.body.getD .skip) = true)
    (H : ∀ v c i, F.pre i → wpC (EX l x fz (some v)) fn.ntmps (I c i) (fn.body.getD .skip) ⟨retE (EX l x fz (some v)) fn F i c, fun _ _ => False, retE (EX l x fz (some v)) fn F i c⟩ ⟨initE 0 (.osl 0 :: F.rest i), [.row F.T F.sz (F.n i) (F.g i) c]⟩) : ES f e := by
  cases hbb : fn.body with
  | none => rw [hbb] at hb; cases hb
  | some code =>
    rw [hbb] at hco H
    exact verifyE (fun v => EX l x fz (some v)) (fun _ => rfl) (fun _ => rfl) (fun _ => rfl) (fun v => EX_ok l x fz (some v)) (fun v => tab_sound hl hx) mixed hf hbb hn F I e he hlen hco H

theorem stopA {p : Prop} (h : Ask p) : Ask p := h
theorem stopE {α : Type} {a b : α} (h : a = b) : a = b := h
theorem stopF (h : False) : False := h

theorem stopL {a b : Option Entry} (h : Late a b) : Late a b := h
theorem stopK {k : IntKind} {n : Int} (h : inK k n) : inK k n := h

theorem Law.of_eq {F : Fam} {k : Kon} (h : ∀ args pre s, k args = some (pre, s) → pre → ∃ i, le2L args (F.args i) ∧ F.pre i ∧ s = F.res i) : Law F k := h

end Go.Proofs.YthfkpmobmnfgcaaDoor.V

/-
  Rows of creases as lists; how they are compared. Conditions: none.
-/
namespace Go.Proofs.YthfkpmobmnfgcaaDoor.V
open Go

structure Cr where
  c : Int
  e : Int
  k : Int
  deriving DecidableEq
def d0 : Cr := ⟨0, 0, 0⟩
def crSV (x : Cr) : List SV := [.int .i64 x.c, .int .u8 x.e, .int .u8 x.k]
def crOf : List SV → Cr
  | [.int _ a, .int _ b, .int _ c] => ⟨a, b, c⟩
  | _ => d0
def rowOf (l : List Cr) (i : Nat) : List SV := crSV (l.getD i d0)
def crL (n : Nat) (f : Nat → List SV) : List Cr := (List.range n).map fun i => crOf (f i)
def isCr (n : Nat) (f : Nat → List SV) : Prop := ∀ i, i < n → f i = crSV (crOf (f i))
/-- A slice of creases. -/
def asCr : SV → Option (Nat × (Nat → List SV))
  | .sl 3 n f _ => some (n, f)
  | .con (.slice none 0 0) => some (0, fun _ => [])
  | _ => none
theorem isCr_rowOf (l : List Cr) : isCr l.length (rowOf l) := fun _ _ => rfl
theorem crL_length (n : Nat) (f : Nat → List SV) : (crL n f).length = n := by simp [crL]
theorem rowOf_crL {n : Nat} {f : Nat → List SV} (h : isCr n f) : ∀ i, i < n → f i = rowOf (crL n f) i := by
  intro i hi
  rw [h i hi]
  simp [rowOf, crL, List.getD_eq_getElem?_getD, hi]
theorem crL_rowOf (l : List Cr) : crL l.length (rowOf l) = l := by
  apply List.ext_getElem?
  intro i
  by_cases hi : i < l.length
  · simp [crL, rowOf, hi, crSV, crOf, List.getD_eq_getElem?_getD]
  · simp at hi; simp [crL, hi]
theorem le2_sl {s : SV} {sz n : Nat} {f : Nat → List SV} {c : Option Nat} (h : s.le0 (.sl sz n f c)) : s.le2 (.sl sz n f c) := by
  cases s <;> exact h
theorem asCr_le {s : SV} {n : Nat} {f : Nat → List SV} (h : asCr s = some (n, f)) (hf : isCr n f) : SV.le0 s (.sl 3 (crL n f).length (rowOf (crL n f)) none) := by
  unfold asCr at h
  split at h
  · cases h
    simp only [SV.le0, capLe, crL_length, if_true, true_and]
    exact rowOf_crL hf
  · cases h
    simp [SV.le0, crL, capLe]
  · cases h

theorem crEq (a b : Cr) : (decide (a.c = b.c) && (decide (a.e = b.e) && (decide (a.k = b.k) && true))) = decide (a = b) := by
  cases a; cases b
  simp [Bool.decide_and]

theorem take_succ_eq {l m : List Cr} {i : Nat} (h : l.take i = m.take i) (e : l.getD i d0 = m.getD i d0) (h1 : i < l.length) (h2 : i < m.length) : l.take (i + 1) = m.take (i + 1) := by
  rw [List.take_add_one, List.take_add_one, h]
  congr 1
  simp only [List.getD_eq_getElem?_getD, List.getElem?_eq_getElem h1, List.getElem?_eq_getElem h2, Option.getD_some] at e
  rw [List.getElem?_eq_getElem h1, List.getElem?_eq_getElem h2, e]

abbrev nEqual : FuncId := 24
def kEqual : Kon
  | [x, y] => match asCr x, asCr y with
    | some (n, f), some (m, g) => some (isCr n f ∧ isCr m g ∧ n ≤ 100000, .bool (decide (crL n f = crL m g)))
    | _, _ => none
  | _ => none
def FEqual : Fam := ⟨List Cr × List Cr, fun (l, m) => [.sl 3 l.length (rowOf l) none, .sl 3 m.length (rowOf m) none], fun (l, _) => l.length ≤ 100000, fun (l, m) => .bool (decide (l = m))⟩
def IEqual (l m : List Cr) : Nat → Option Inv
  | 4 => some { β := Nat, ok := fun i => i ≤ l.length ∧ l.length = m.length ∧ l.take i = m.take i, st := fun i => ⟨[⟨13, none, .int .i64 i⟩, ⟨12, none, .int .i64 l.length⟩, ⟨0, none, .sl 3 l.length (rowOf l) none⟩, ⟨1, none, .sl 3 m.length (rowOf m) none⟩], []⟩, μ := fun i => l.length - i }
  | _ => none
set_option maxRecDepth 100000 in
theorem pEqual : PS nEqual kEqual := by
  refine con [] (by simp) FEqual (fun (l, m) => IEqual l m) kEqual ?_ ?_ Go.Proofs.Tryd.func24 (by kernel_rfl) (by kernel_rfl) (by kernel_rfl) ?_
  · intro args pre s h hp
    unfold kEqual at h
    split at h
    · split at h
      · rename_i n f m g hx hy
        cases h
        exact ⟨(crL n f, crL m g), ⟨le2_sl (asCr_le hx hp.1), le2_sl (asCr_le hy hp.2.1), trivial⟩, by simp only [FEqual, crL_length]; exact hp.2.2, rfl⟩
      · cases h
    · cases h
  · intro i; show 2 ≤ _; decide
  · rintro ⟨l, m⟩ hp
    replace hp : l.length ≤ 100000 := hp
    repeat (any_goals (first
      | (with_reducible refine And.intro (Ask.mk ?_) ?_
         first | exact trivial | exact fun _ => trivial)
      | with_reducible refine And.intro ?_ ?_
      | with_reducible refine Br.mk (fun h => ?_) (fun h => ?_)
      | with_reducible exact True.intro
      | (with_reducible refine Late.mk ?_
         exact rfl)
      | (fail_if_success with_reducible apply stopA
         fail_if_success with_reducible apply stopE
         fail_if_success with_reducible apply stopF
         fail_if_success with_reducible apply Exists.intro
         fail_if_success with_reducible intro _
         fail_if_success with_reducible apply stopK
         fail_if_success with_reducible apply stopL
         conv => whnf)))
    all_goals (try with_reducible refine Ask.mk ?_)
    all_goals (try first | exact trivial | exact fun _ => trivial)
    all_goals (try dsimp only)
    · simp at h
      have : l ≠ m := fun e => h (by rw [e])
      simp [this]
    · simp at h
      refine ⟨(0 : Nat), ⟨by omega, by omega, by simp⟩, ?_, ?_⟩
      · repeat (any_goals (first
          | (with_reducible refine And.intro (Ask.mk ?_) ?_
             first | exact trivial | exact fun _ => trivial)
          | with_reducible refine And.intro ?_ ?_
          | with_reducible refine Br.mk (fun h => ?_) (fun h => ?_)
          | with_reducible exact True.intro
          | (with_reducible refine Late.mk ?_
             exact rfl)
          | (fail_if_success with_reducible apply stopA
             fail_if_success with_reducible apply stopE
             fail_if_success with_reducible apply stopF
             fail_if_success with_reducible apply Exists.intro
             fail_if_success with_reducible intro _
             fail_if_success with_reducible apply stopK
             fail_if_success with_reducible apply stopL
             conv => whnf)))
        all_goals (try with_reducible refine Ask.mk ?_)
        all_goals (try first | exact trivial | exact fun _ => trivial)
        all_goals (try dsimp only)
        all_goals first | rfl | exact fun _ _ => rfl | skip
      · rintro i ⟨hi1, hi2, hi3⟩
        repeat (any_goals (first
          | (with_reducible refine And.intro (Ask.mk ?_) ?_
             first | exact trivial | exact fun _ => trivial)
          | with_reducible refine And.intro ?_ ?_
          | with_reducible refine Br.mk (fun h => ?_) (fun h => ?_)
          | with_reducible exact True.intro
          | (with_reducible refine Late.mk ?_
             exact rfl)
          | (fail_if_success with_reducible apply stopA
             fail_if_success with_reducible apply stopE
             fail_if_success with_reducible apply stopF
             fail_if_success with_reducible apply Exists.intro
             fail_if_success with_reducible intro _
             fail_if_success with_reducible apply stopK
             fail_if_success with_reducible apply stopL
             conv => whnf)))
        all_goals (try with_reducible refine Ask.mk ?_)
        all_goals (try first | exact trivial | exact fun _ => trivial)
        all_goals (try dsimp only)
        · simp at h; omega
        · simp at h; omega
        · rename_i h0; simp at h0
          have h2 : (!decide (l.getD i d0 = m.getD i d0)) = true := by rw [← crEq]; exact h
          have hne : l.getD i d0 ≠ m.getD i d0 := by simpa using h2
          have : l ≠ m := fun e => hne (by rw [e])
          simp [this]
        · simp only [inK]; omega
        · rename_i h0; simp at h0
          have e : l.getD i d0 = m.getD i d0 := by
            have h2 : (!decide (l.getD i d0 = m.getD i d0)) = false := by rw [← crEq]; exact h
            simpa using h2
          refine ⟨i + 1, ⟨by omega, hi2, take_succ_eq hi3 e h0 (by omega)⟩, by omega, ?_⟩
          repeat (any_goals (first
            | (with_reducible refine And.intro (Ask.mk ?_) ?_
               first | exact trivial | exact fun _ => trivial)
            | with_reducible refine And.intro ?_ ?_
            | with_reducible refine Br.mk (fun h => ?_) (fun h => ?_)
            | with_reducible exact True.intro
            | (with_reducible refine Late.mk ?_
               exact rfl)
            | (fail_if_success with_reducible apply stopA
               fail_if_success with_reducible apply stopE
               fail_if_success with_reducible apply stopF
               fail_if_success with_reducible apply Exists.intro
               fail_if_success with_reducible intro _
               fail_if_success with_reducible apply stopK
               fail_if_success with_reducible apply stopL
               conv => whnf)))
          all_goals (try with_reducible refine Ask.mk ?_)
          all_goals (try first | exact trivial | exact fun _ => trivial)
          all_goals (try dsimp only)
          all_goals first | rfl | exact fun _ _ => rfl | omega
        · simp at h
          have : l = m := by
            rw [List.take_of_length_le (by omega), List.take_of_length_le (by omega)] at hi3
            exact hi3
          simp [this]

end Go.Proofs.YthfkpmobmnfgcaaDoor.V

/-
  Contracts of package cmp's functions at the program's types. Conditions: none.
-/
namespace Go.Proofs.YthfkpmobmnfgcaaDoor.V
open Go

def cmpI (a b : Int) : Int := if a < b then -1 else if a > b then 1 else 0
abbrev nNaN : FuncId := 47
def kNaN : Kon
  | [.int .i64 _] => some (True, .bool false)
  | _ => none
def FNaN : Fam := ⟨Int, fun a => [.int .i64 a], fun _ => True, fun _ => .bool false⟩
set_option maxHeartbeats 4000000 in
set_option maxRecDepth 100000 in
theorem pNaN : PS nNaN kNaN := by
  refine con [] (by simp) FNaN (fun _ _ => none) kNaN ?_ ?_ Go.Proofs.Tryd.func47 (by kernel_rfl) (by kernel_rfl) (by kernel_rfl) ?_
  · intro args pre s h hp
    unfold kNaN at h
    split at h
    · rename_i a; cases h; exact ⟨a, by simp [FNaN, le2L, SV.le2, SV.le1, SV.le0], hp, rfl⟩
    · cases h
  · intro i; show 1 ≤ _; decide
  · intro (a : Int) hp
    replace hp : True := hp
    repeat (any_goals (first
      | (with_reducible refine And.intro (Ask.mk ?_) ?_
         first | exact trivial | exact fun _ => trivial)
      | with_reducible refine And.intro ?_ ?_
      | with_reducible refine Br.mk (fun h => ?_) (fun h => ?_)
      | with_reducible exact True.intro
      | (with_reducible refine Late.mk ?_
         exact rfl)
      | (fail_if_success with_reducible apply stopA
         fail_if_success with_reducible apply stopE
         fail_if_success with_reducible apply stopF
         fail_if_success with_reducible apply Exists.intro
         fail_if_success with_reducible intro _
         fail_if_success with_reducible apply stopK
         fail_if_success with_reducible apply stopL
         conv => whnf)))
    all_goals (try with_reducible refine Ask.mk ?_)
    all_goals (try first | exact trivial | exact fun _ => trivial)
    all_goals (try dsimp only)
    all_goals simp
abbrev nNaN8 : FuncId := 58
def kNaN8 : Kon
  | [.int .u8 _] => some (True, .bool false)
  | _ => none
def FNaN8 : Fam := ⟨Int, fun a => [.int .u8 a], fun _ => True, fun _ => .bool false⟩
set_option maxHeartbeats 4000000 in
set_option maxRecDepth 100000 in
theorem pNaN8 : PS nNaN8 kNaN8 := by
  refine con [] (by simp) FNaN8 (fun _ _ => none) kNaN8 ?_ ?_ Go.Proofs.Tryd.func58 (by kernel_rfl) (by kernel_rfl) (by kernel_rfl) ?_
  · intro args pre s h hp
    unfold kNaN8 at h
    split at h
    · rename_i a; cases h; exact ⟨a, by simp [FNaN8, le2L, SV.le2, SV.le1, SV.le0], hp, rfl⟩
    · cases h
  · intro i; show 1 ≤ _; decide
  · intro (a : Int) hp
    replace hp : True := hp
    repeat (any_goals (first
      | (with_reducible refine And.intro (Ask.mk ?_) ?_
         first | exact trivial | exact fun _ => trivial)
      | with_reducible refine And.intro ?_ ?_
      | with_reducible refine Br.mk (fun h => ?_) (fun h => ?_)
      | with_reducible exact True.intro
      | (with_reducible refine Late.mk ?_
         exact rfl)
      | (fail_if_success with_reducible apply stopA
         fail_if_success with_reducible apply stopE
         fail_if_success with_reducible apply stopF
         fail_if_success with_reducible apply Exists.intro
         fail_if_success with_reducible intro _
         fail_if_success with_reducible apply stopK
         fail_if_success with_reducible apply stopL
         conv => whnf)))
    all_goals (try with_reducible refine Ask.mk ?_)
    all_goals (try first | exact trivial | exact fun _ => trivial)
    all_goals (try dsimp only)
    all_goals simp
abbrev nNaNk : FuncId := 59
def kNaNk : Kon
  | [.int .u8 _] => some (True, .bool false)
  | _ => none
def FNaNk : Fam := ⟨Int, fun a => [.int .u8 a], fun _ => True, fun _ => .bool false⟩
set_option maxHeartbeats 4000000 in
set_option maxRecDepth 100000 in
theorem pNaNk : PS nNaNk kNaNk := by
  refine con [] (by simp) FNaNk (fun _ _ => none) kNaNk ?_ ?_ Go.Proofs.Tryd.func59 (by kernel_rfl) (by kernel_rfl) (by kernel_rfl) ?_
  · intro args pre s h hp
    unfold kNaNk at h
    split at h
    · rename_i a; cases h; exact ⟨a, by simp [FNaNk, le2L, SV.le2, SV.le1, SV.le0], hp, rfl⟩
    · cases h
  · intro i; show 1 ≤ _; decide
  · intro (a : Int) hp
    replace hp : True := hp
    repeat (any_goals (first
      | (with_reducible refine And.intro (Ask.mk ?_) ?_
         first | exact trivial | exact fun _ => trivial)
      | with_reducible refine And.intro ?_ ?_
      | with_reducible refine Br.mk (fun h => ?_) (fun h => ?_)
      | with_reducible exact True.intro
      | (with_reducible refine Late.mk ?_
         exact rfl)
      | (fail_if_success with_reducible apply stopA
         fail_if_success with_reducible apply stopE
         fail_if_success with_reducible apply stopF
         fail_if_success with_reducible apply Exists.intro
         fail_if_success with_reducible intro _
         fail_if_success with_reducible apply stopK
         fail_if_success with_reducible apply stopL
         conv => whnf)))
    all_goals (try with_reducible refine Ask.mk ?_)
    all_goals (try first | exact trivial | exact fun _ => trivial)
    all_goals (try dsimp only)
    all_goals simp
abbrev nCmp : FuncId := 30
def kCmp : Kon
  | [.int .i64 a, .int .i64 b] => some (True, .int .i64 (cmpI a b))
  | _ => none
def FCmp : Fam := ⟨Int × Int, fun (a, b) => [.int .i64 a, .int .i64 b], fun (_, _) => True, fun (a, b) => .int .i64 (cmpI a b)⟩
set_option maxHeartbeats 4000000 in
set_option maxRecDepth 100000 in
theorem pCmp : PS nCmp kCmp := by
  refine con [(nNaN, kNaN)] (by simpa using pNaN) FCmp (fun _ _ => none) kCmp ?_ ?_ Go.Proofs.Tryd.func30 (by kernel_rfl) (by kernel_rfl) (by kernel_rfl) ?_
  · intro args pre s h hp
    unfold kCmp at h
    split at h
    · rename_i a b; cases h; exact ⟨(a, b), by simp [FCmp, le2L, SV.le2, SV.le1, SV.le0], hp, rfl⟩
    · cases h
  · intro i; show 2 ≤ _; decide
  · rintro ⟨a, b⟩ hp
    replace hp : True := hp
    repeat (any_goals (first
      | (with_reducible refine And.intro (Ask.mk ?_) ?_
         first | exact trivial | exact fun _ => trivial)
      | with_reducible refine And.intro ?_ ?_
      | with_reducible refine Br.mk (fun h => ?_) (fun h => ?_)
      | with_reducible exact True.intro
      | (with_reducible refine Late.mk ?_
         exact rfl)
      | (fail_if_success with_reducible apply stopA
         fail_if_success with_reducible apply stopE
         fail_if_success with_reducible apply stopF
         fail_if_success with_reducible apply Exists.intro
         fail_if_success with_reducible intro _
         fail_if_success with_reducible apply stopK
         fail_if_success with_reducible apply stopL
         conv => whnf)))
    all_goals (try with_reducible refine Ask.mk ?_)
    all_goals (try first | exact trivial | exact fun _ => trivial)
    all_goals (try dsimp only)
    all_goals (first | (simp at h; done) | (rename_i h0; simp at h0; done) | (simp at h; (try rename_i h0; simp at h0); simp [cmpI, *] <;> omega))
abbrev nCmp8 : FuncId := 48
def kCmp8 : Kon
  | [.int .u8 a, .int .u8 b] => some (True, .int .i64 (cmpI a b))
  | _ => none
def FCmp8 : Fam := ⟨Int × Int, fun (a, b) => [.int .u8 a, .int .u8 b], fun (_, _) => True, fun (a, b) => .int .i64 (cmpI a b)⟩
set_option maxHeartbeats 4000000 in
set_option maxRecDepth 100000 in
theorem pCmp8 : PS nCmp8 kCmp8 := by
  refine con [(nNaN8, kNaN8)] (by simpa using pNaN8) FCmp8 (fun _ _ => none) kCmp8 ?_ ?_ Go.Proofs.Tryd.func48 (by kernel_rfl) (by kernel_rfl) (by kernel_rfl) ?_
  · intro args pre s h hp
    unfold kCmp8 at h
    split at h
    · rename_i a b; cases h; exact ⟨(a, b), by simp [FCmp8, le2L, SV.le2, SV.le1, SV.le0], hp, rfl⟩
    · cases h
  · intro i; show 2 ≤ _; decide
  · rintro ⟨a, b⟩ hp
    replace hp : True := hp
    repeat (any_goals (first
      | (with_reducible refine And.intro (Ask.mk ?_) ?_
         first | exact trivial | exact fun _ => trivial)
      | with_reducible refine And.intro ?_ ?_
      | with_reducible refine Br.mk (fun h => ?_) (fun h => ?_)
      | with_reducible exact True.intro
      | (with_reducible refine Late.mk ?_
         exact rfl)
      | (fail_if_success with_reducible apply stopA
         fail_if_success with_reducible apply stopE
         fail_if_success with_reducible apply stopF
         fail_if_success with_reducible apply Exists.intro
         fail_if_success with_reducible intro _
         fail_if_success with_reducible apply stopK
         fail_if_success with_reducible apply stopL
         conv => whnf)))
    all_goals (try with_reducible refine Ask.mk ?_)
    all_goals (try first | exact trivial | exact fun _ => trivial)
    all_goals (try dsimp only)
    all_goals (first | (simp at h; done) | (rename_i h0; simp at h0; done) | (simp at h; (try rename_i h0; simp at h0); simp [cmpI, *] <;> omega))
abbrev nCmpk : FuncId := 49
def kCmpk : Kon
  | [.int .u8 a, .int .u8 b] => some (True, .int .i64 (cmpI a b))
  | _ => none
def FCmpk : Fam := ⟨Int × Int, fun (a, b) => [.int .u8 a, .int .u8 b], fun (_, _) => True, fun (a, b) => .int .i64 (cmpI a b)⟩
set_option maxHeartbeats 4000000 in
set_option maxRecDepth 100000 in
theorem pCmpk : PS nCmpk kCmpk := by
  refine con [(nNaNk, kNaNk)] (by simpa using pNaNk) FCmpk (fun _ _ => none) kCmpk ?_ ?_ Go.Proofs.Tryd.func49 (by kernel_rfl) (by kernel_rfl) (by kernel_rfl) ?_
  · intro args pre s h hp
    unfold kCmpk at h
    split at h
    · rename_i a b; cases h; exact ⟨(a, b), by simp [FCmpk, le2L, SV.le2, SV.le1, SV.le0], hp, rfl⟩
    · cases h
  · intro i; show 2 ≤ _; decide
  · rintro ⟨a, b⟩ hp
    replace hp : True := hp
    repeat (any_goals (first
      | (with_reducible refine And.intro (Ask.mk ?_) ?_
         first | exact trivial | exact fun _ => trivial)
      | with_reducible refine And.intro ?_ ?_
      | with_reducible refine Br.mk (fun h => ?_) (fun h => ?_)
      | with_reducible exact True.intro
      | (with_reducible refine Late.mk ?_
         exact rfl)
      | (fail_if_success with_reducible apply stopA
         fail_if_success with_reducible apply stopE
         fail_if_success with_reducible apply stopF
         fail_if_success with_reducible apply Exists.intro
         fail_if_success with_reducible intro _
         fail_if_success with_reducible apply stopK
         fail_if_success with_reducible apply stopL
         conv => whnf)))
    all_goals (try with_reducible refine Ask.mk ?_)
    all_goals (try first | exact trivial | exact fun _ => trivial)
    all_goals (try dsimp only)
    all_goals (first | (simp at h; done) | (rename_i h0; simp at h0; done) | (simp at h; (try rename_i h0; simp at h0); simp [cmpI, *] <;> omega))

def or3 (a b c : Int) : Int := if a = 0 then (if b = 0 then c else b) else a
abbrev nOr : FuncId := 29
def kOr : Kon
  | [.sl 1 3 f _] => match f 0, f 1, f 2 with
    | [.int .i64 a], [.int .i64 b], [.int .i64 c] => some (True, .int .i64 (or3 a b c))
    | _, _, _ => none
  | _ => none
def or3Row (a b c : Int) (i : Nat) : List SV := [.int .i64 (tb [a, b, c] i)]
def FOr : Fam := ⟨Int × Int × Int, fun (a, b, c) => [.sl 1 3 (or3Row a b c) none], fun _ => True, fun (a, b, c) => .int .i64 (or3 a b c)⟩
def IOr (a b c : Int) : Nat → Option Inv
  | 3 => some { β := Nat, ok := fun i => i ≤ 3 ∧ ∀ j, j < i → tb [a, b, c] j = 0, st := fun i => ⟨[⟨8, none, .int .i64 i⟩, ⟨7, none, .int .i64 3⟩, ⟨6, none, .sl 1 3 (or3Row a b c) none⟩, ⟨3, none, .int .i64 0⟩], []⟩, μ := fun i => 3 - i }
  | _ => none
set_option maxRecDepth 100000 in
theorem pOr : PS nOr kOr := by
  refine con [] (by simp) FOr (fun (a, b, c) => IOr a b c) kOr ?_ ?_ Go.Proofs.Tryd.func29 (by kernel_rfl) (by kernel_rfl) (by kernel_rfl) ?_
  · intro args pre s h hp
    unfold kOr at h
    split at h
    · split at h
      · rename_i f cp _ _ _ a b c h0 h1 h2
        cases h
        refine ⟨(a, b, c), ?_, trivial, rfl⟩
        simp only [FOr, le2L, SV.le2, SV.le1, SV.le0, capLe, and_true, true_and, if_true]
        intro i hi
        match i, hi with
        | 0, _ => exact h0
        | 1, _ => exact h1
        | 2, _ => exact h2
      · cases h
    · cases h
  · intro i; show 1 ≤ _; decide
  · rintro ⟨a, b, c⟩ -
    repeat (any_goals (first
      | (with_reducible refine And.intro (Ask.mk ?_) ?_
         first | exact trivial | exact fun _ => trivial)
      | with_reducible refine And.intro ?_ ?_
      | with_reducible refine Br.mk (fun h => ?_) (fun h => ?_)
      | with_reducible exact True.intro
      | (with_reducible refine Late.mk ?_
         exact rfl)
      | (fail_if_success with_reducible apply stopA
         fail_if_success with_reducible apply stopE
         fail_if_success with_reducible apply stopF
         fail_if_success with_reducible apply Exists.intro
         fail_if_success with_reducible intro _
         fail_if_success with_reducible apply stopK
         fail_if_success with_reducible apply stopL
         conv => whnf)))
    all_goals (try with_reducible refine Ask.mk ?_)
    all_goals (try first | exact trivial | exact fun _ => trivial)
    all_goals (try dsimp only)
    refine ⟨(0 : Nat), ⟨by omega, fun j hj => by omega⟩, ?_, ?_⟩
    · repeat (any_goals (first
        | (with_reducible refine And.intro (Ask.mk ?_) ?_
           first | exact trivial | exact fun _ => trivial)
        | with_reducible refine And.intro ?_ ?_
        | with_reducible refine Br.mk (fun h => ?_) (fun h => ?_)
        | with_reducible exact True.intro
        | (with_reducible refine Late.mk ?_
           exact rfl)
        | (fail_if_success with_reducible apply stopA
           fail_if_success with_reducible apply stopE
           fail_if_success with_reducible apply stopF
           fail_if_success with_reducible apply Exists.intro
           fail_if_success with_reducible intro _
           fail_if_success with_reducible apply stopK
           fail_if_success with_reducible apply stopL
           conv => whnf)))
      all_goals (try with_reducible refine Ask.mk ?_)
      all_goals (try first | exact trivial | exact fun _ => trivial)
      all_goals (try dsimp only)
      all_goals first | rfl | exact fun _ _ => rfl
    · intro i hi
      obtain ⟨hi1, hi2⟩ := hi
      repeat (any_goals (first
        | (with_reducible refine And.intro (Ask.mk ?_) ?_
           first | exact trivial | exact fun _ => trivial)
        | with_reducible refine And.intro ?_ ?_
        | with_reducible refine Br.mk (fun h => ?_) (fun h => ?_)
        | with_reducible exact True.intro
        | (with_reducible refine Late.mk ?_
           exact rfl)
        | (fail_if_success with_reducible apply stopA
           fail_if_success with_reducible apply stopE
           fail_if_success with_reducible apply stopF
           fail_if_success with_reducible apply Exists.intro
           fail_if_success with_reducible intro _
           fail_if_success with_reducible apply stopK
           fail_if_success with_reducible apply stopL
           conv => whnf)))
      all_goals (try with_reducible refine Ask.mk ?_)
      all_goals (try first | exact trivial | exact fun _ => trivial)
      all_goals (try dsimp only)
      · simp at h; omega
      · rename_i h0; simp at h0
        have : i = 0 ∨ i = 1 ∨ i = 2 := by omega
        rcases this with rfl | rfl | rfl
        · simp [tb, or3] at h ⊢; simp [h]
        · have := hi2 0 (by omega)
          simp [tb, or3] at h this ⊢; simp [h, this]
        · have := hi2 0 (by omega)
          have := hi2 1 (by omega)
          simp [tb, or3] at *; simp [*]
      · simp only [inK]; omega
      · rename_i h0; simp at h0
        refine ⟨i + 1, ⟨by omega, fun j hj => ?_⟩, by omega, ?_⟩
        · by_cases e : j = i
          · subst e; simpa using h
          · exact hi2 j (by omega)
        · repeat (any_goals (first
            | (with_reducible refine And.intro (Ask.mk ?_) ?_
               first | exact trivial | exact fun _ => trivial)
            | with_reducible refine And.intro ?_ ?_
            | with_reducible refine Br.mk (fun h => ?_) (fun h => ?_)
            | with_reducible exact True.intro
            | (with_reducible refine Late.mk ?_
               exact rfl)
            | (fail_if_success with_reducible apply stopA
               fail_if_success with_reducible apply stopE
               fail_if_success with_reducible apply stopF
               fail_if_success with_reducible apply Exists.intro
               fail_if_success with_reducible intro _
               fail_if_success with_reducible apply stopK
               fail_if_success with_reducible apply stopL
               conv => whnf)))
          all_goals (try with_reducible refine Ask.mk ?_)
          all_goals (try first | exact trivial | exact fun _ => trivial)
          all_goals (try dsimp only)
          all_goals first | rfl | exact fun _ _ => rfl | omega
      · simp at h
        have e0 := hi2 0 (by omega)
        have e1 := hi2 1 (by omega)
        have e2 := hi2 2 (by omega)
        simp [tb] at e0 e1 e2
        simp [or3, e0, e1, e2]

end Go.Proofs.YthfkpmobmnfgcaaDoor.V

/-
  Contracts: how creases are compared; the cells of the document's own answer. Conditions: none.
-/
namespace Go.Proofs.YthfkpmobmnfgcaaDoor.V
open Go

abbrev nCompare : FuncId := 32
def kCompare : Kon
  | [.agg [.int .i64 a, .int .u8 b, .int .u8 c], .agg [.int .i64 d, .int .u8 e, .int .u8 f]] => some (True, .int .i64 (or3 (cmpI a d) (cmpI b e) (cmpI c f)))
  | _ => none
def FCompare : Fam := ⟨Int × Int × Int × Int × Int × Int, fun (a, b, c, d, e, f) => [.agg [.int .i64 a, .int .u8 b, .int .u8 c], .agg [.int .i64 d, .int .u8 e, .int .u8 f]], fun (_, _, _, _, _, _) => True, fun (a, b, c, d, e, f) => .int .i64 (or3 (cmpI a d) (cmpI b e) (cmpI c f))⟩
set_option maxHeartbeats 4000000 in
set_option maxRecDepth 100000 in
theorem pCompare : PS nCompare kCompare := by
  refine con [(nCmp, kCmp), (nCmp8, kCmp8), (nCmpk, kCmpk), (nOr, kOr)] (by simpa using ⟨pCmp, pCmp8, pCmpk, pOr⟩) FCompare (fun _ _ => none) kCompare ?_ ?_ Go.Proofs.Tryd.func32 (by kernel_rfl) (by kernel_rfl) (by kernel_rfl) ?_
  · intro args pre s h hp
    unfold kCompare at h
    split at h
    · rename_i a b c d e f; cases h; exact ⟨(a, b, c, d, e, f), by simp [FCompare, le2L, SV.le2, SV.le1, le0L, SV.le0], hp, rfl⟩
    · cases h
  · intro i; show 2 ≤ _; decide
  · rintro ⟨a, b, c, d, e, f⟩ hp
    replace hp : True := hp
    repeat (any_goals (first
      | (with_reducible refine And.intro (Ask.mk ?_) ?_
         first | exact trivial | exact fun _ => trivial)
      | with_reducible refine And.intro ?_ ?_
      | with_reducible refine Br.mk (fun h => ?_) (fun h => ?_)
      | with_reducible exact True.intro
      | (with_reducible refine Late.mk ?_
         exact rfl)
      | (fail_if_success with_reducible apply stopA
         fail_if_success with_reducible apply stopE
         fail_if_success with_reducible apply stopF
         fail_if_success with_reducible apply Exists.intro
         fail_if_success with_reducible intro _
         fail_if_success with_reducible apply stopK
         fail_if_success with_reducible apply stopL
         conv => whnf)))
    all_goals (try with_reducible refine Ask.mk ?_)
    all_goals (try first | exact trivial | exact fun _ => trivial)
    all_goals (try dsimp only)

abbrev nCell25 : FuncId := 41
def kCell25 : Kon
  | [.agg [.int .i64 W, .int .i64 _], .int .i64 i] => some (1 ≤ W ∧ W ≤ 256 ∧ 0 ≤ i ∧ i ≤ 1024, .agg [.int .i64 (i / 4 % W), .int .i64 (i / 4 / W), .int .u8 (i % 4)])
  | _ => none
def FCell25 : Fam := ⟨Int × Int × Int, fun (W, H, i) => [.agg [.int .i64 W, .int .i64 H], .int .i64 i], fun (W, _, i) => 1 ≤ W ∧ W ≤ 256 ∧ 0 ≤ i ∧ i ≤ 1024, fun (W, _, i) => .agg [.int .i64 (i / 4 % W), .int .i64 (i / 4 / W), .int .u8 (i % 4)]⟩
set_option maxHeartbeats 4000000 in
set_option maxRecDepth 100000 in
theorem pCell25 : PS nCell25 kCell25 := by
  refine con [] (by simp) FCell25 (fun _ _ => none) kCell25 ?_ ?_ Go.Proofs.Tryd.func41 (by kernel_rfl) (by kernel_rfl) (by kernel_rfl) ?_
  · intro args pre s h hp
    unfold kCell25 at h
    split at h
    · rename_i W H i; cases h; exact ⟨(W, H, i), by simp [FCell25, le2L, SV.le2, SV.le1, le0L, SV.le0], hp, rfl⟩
    · cases h
  · intro i; show 2 ≤ _; decide
  · rintro ⟨W, H, i⟩ hp
    replace hp : 1 ≤ W ∧ W ≤ 256 ∧ 0 ≤ i ∧ i ≤ 1024 := hp
    obtain ⟨h1, h2, h3, h4⟩ := hp
    have a1 : i.tdiv 4 = i / 4 := Int.tdiv_eq_ediv_of_nonneg h3
    have a2 : i.tmod 4 = i % 4 := Int.tmod_eq_emod_of_nonneg h3
    have a3 : (i / 4).tdiv W = i / 4 / W := Int.tdiv_eq_ediv_of_nonneg (by omega)
    have a4 : (i / 4).tmod W = i / 4 % W := Int.tmod_eq_emod_of_nonneg (by omega)
    have a5 : i / 4 / W ≤ i / 4 := Int.ediv_le_self _ (by omega)
    have a6 : 0 ≤ i / 4 / W := Int.ediv_nonneg (by omega) (by omega)
    repeat (any_goals (first
      | (with_reducible refine And.intro (Ask.mk ?_) ?_
         first | exact trivial | exact fun _ => trivial)
      | with_reducible refine And.intro ?_ ?_
      | with_reducible refine Br.mk (fun h => ?_) (fun h => ?_)
      | with_reducible exact True.intro
      | (with_reducible refine Late.mk ?_
         exact rfl)
      | (fail_if_success with_reducible apply stopA
         fail_if_success with_reducible apply stopE
         fail_if_success with_reducible apply stopF
         fail_if_success with_reducible apply Exists.intro
         fail_if_success with_reducible intro _
         fail_if_success with_reducible apply stopK
         fail_if_success with_reducible apply stopL
         conv => whnf)))
    all_goals (try with_reducible refine Ask.mk ?_)
    all_goals (try first | exact trivial | exact fun _ => trivial)
    all_goals (try dsimp only)
    all_goals (try simp only [a1, a2, a3, a4])
    all_goals (try simp only [inK])
    all_goals omega

def byX (X Q k : Int) : Int := if k = 0 then (if Q = 1 then X + 1 else if Q = 3 then X - 1 else X) else X
def byY (Y Q k : Int) : Int := if k = 0 then (if Q = 0 then Y - 1 else if Q = 2 then Y + 1 else Y) else Y
def byQ (Q k : Int) : Int := if k = 0 then (Q + 2) % 4 else if k = 1 then (Q + 1) % 4 else (Q + 3) % 4
abbrev nBeyond : FuncId := 40
def kBeyond : Kon
  | [.agg [.int .i64 X, .int .i64 Y, .int .u8 Q], .int .i64 k] => some (0 ≤ Q ∧ Q ≤ 3 ∧ -4096 ≤ X ∧ X ≤ 4096 ∧ -4096 ≤ Y ∧ Y ≤ 4096, .agg [.int .i64 (byX X Q k), .int .i64 (byY Y Q k), .int .u8 (byQ Q k)])
  | _ => none
def FBeyond : Fam := ⟨Int × Int × Int × Int, fun (X, Y, Q, k) => [.agg [.int .i64 X, .int .i64 Y, .int .u8 Q], .int .i64 k], fun (X, Y, Q, _) => 0 ≤ Q ∧ Q ≤ 3 ∧ -4096 ≤ X ∧ X ≤ 4096 ∧ -4096 ≤ Y ∧ Y ≤ 4096, fun (X, Y, Q, k) => .agg [.int .i64 (byX X Q k), .int .i64 (byY Y Q k), .int .u8 (byQ Q k)]⟩
set_option maxHeartbeats 4000000 in
set_option maxRecDepth 100000 in
theorem pBeyond : PS nBeyond kBeyond := by
  refine con [] (by simp) FBeyond (fun _ _ => none) kBeyond ?_ ?_ Go.Proofs.Tryd.func40 (by kernel_rfl) (by kernel_rfl) (by kernel_rfl) ?_
  · intro args pre s h hp
    unfold kBeyond at h
    split at h
    · rename_i X Y Q k; cases h; exact ⟨(X, Y, Q, k), by simp [FBeyond, le2L, SV.le2, SV.le1, le0L, SV.le0], hp, rfl⟩
    · cases h
  · intro i; show 2 ≤ _; decide
  · rintro ⟨X, Y, Q, k⟩ hp
    replace hp : 0 ≤ Q ∧ Q ≤ 3 ∧ -4096 ≤ X ∧ X ≤ 4096 ∧ -4096 ≤ Y ∧ Y ≤ 4096 := hp
    have a1 : (Q + 1).tmod 4 = (Q + 1) % 4 := Int.tmod_eq_emod_of_nonneg (by omega)
    have a3 : (Q + 3).tmod 4 = (Q + 3) % 4 := Int.tmod_eq_emod_of_nonneg (by omega)
    repeat (any_goals (first
      | (with_reducible refine And.intro (Ask.mk ?_) ?_
         first | exact trivial | exact fun _ => trivial)
      | with_reducible refine And.intro ?_ ?_
      | with_reducible refine Br.mk (fun h => ?_) (fun h => ?_)
      | with_reducible exact True.intro
      | (with_reducible refine Late.mk ?_
         exact rfl)
      | (fail_if_success with_reducible apply stopA
         fail_if_success with_reducible apply stopE
         fail_if_success with_reducible apply stopF
         fail_if_success with_reducible apply Exists.intro
         fail_if_success with_reducible intro _
         fail_if_success with_reducible apply stopK
         fail_if_success with_reducible apply stopL
         conv => whnf)))
    all_goals (try with_reducible refine Ask.mk ?_)
    all_goals (try first | exact trivial | exact fun _ => trivial)
    all_goals (try dsimp only)
    all_goals (try simp only [a1, a3])
    all_goals (try simp only [inK])
    all_goals (try omega)
    all_goals (try (simp at h; done))
    all_goals (simp only [decide_eq_true_eq, decide_eq_false_iff_not] at *)
    all_goals (try subst k)
    all_goals (try subst Q)
    all_goals (first | (simp [byX, byY, byQ, *]; done) | (simp [byX, byQ, *]; omega) | skip)

def cnX (X Q : Int) : Nat → Int := tb [6 * X + 3, if Q = 0 then 6 * X else if Q = 1 then 6 * X + 6 else if Q = 2 then 6 * X + 6 else 6 * X, if Q = 0 then 6 * X + 6 else if Q = 1 then 6 * X + 6 else 6 * X]
def cnY (Y Q : Int) : Nat → Int := tb [6 * Y + 3, if Q = 0 then 6 * Y else if Q = 1 then 6 * Y else if Q = 2 then 6 * Y + 6 else 6 * Y + 6, if Q = 0 then 6 * Y else if Q = 1 then 6 * Y + 6 else if Q = 2 then 6 * Y + 6 else 6 * Y]
abbrev nCorners : FuncId := 57
def kCorners : Kon
  | [.agg [.int .i64 X, .int .i64 Y, .int .u8 Q]] => some (-4096 ≤ X ∧ X ≤ 4096 ∧ -4096 ≤ Y ∧ Y ≤ 4096, .agg [.int .i64 (cnX X Q 0), .int .i64 (cnY Y Q 0), .int .i64 (cnX X Q 1), .int .i64 (cnY Y Q 1), .int .i64 (cnX X Q 2), .int .i64 (cnY Y Q 2)])
  | _ => none
def FCorners : Fam := ⟨Int × Int × Int, fun (X, Y, Q) => [.agg [.int .i64 X, .int .i64 Y, .int .u8 Q]], fun (X, Y, _) => -4096 ≤ X ∧ X ≤ 4096 ∧ -4096 ≤ Y ∧ Y ≤ 4096, fun (X, Y, Q) => .agg [.int .i64 (cnX X Q 0), .int .i64 (cnY Y Q 0), .int .i64 (cnX X Q 1), .int .i64 (cnY Y Q 1), .int .i64 (cnX X Q 2), .int .i64 (cnY Y Q 2)]⟩
set_option maxHeartbeats 4000000 in
set_option maxRecDepth 100000 in
theorem pCorners : PS nCorners kCorners := by
  refine con [] (by simp) FCorners (fun _ _ => none) kCorners ?_ ?_ Go.Proofs.Tryd.func57 (by kernel_rfl) (by kernel_rfl) (by kernel_rfl) ?_
  · intro args pre s h hp
    unfold kCorners at h
    split at h
    · rename_i X Y Q; cases h; exact ⟨(X, Y, Q), by simp [FCorners, le2L, SV.le2, SV.le1, le0L, SV.le0], hp, rfl⟩
    · cases h
  · intro i; show 1 ≤ _; decide
  · rintro ⟨X, Y, Q⟩ hp
    replace hp : -4096 ≤ X ∧ X ≤ 4096 ∧ -4096 ≤ Y ∧ Y ≤ 4096 := hp
    repeat (any_goals (first
      | (with_reducible refine And.intro (Ask.mk ?_) ?_
         first | exact trivial | exact fun _ => trivial)
      | with_reducible refine And.intro ?_ ?_
      | with_reducible refine Br.mk (fun h => ?_) (fun h => ?_)
      | with_reducible exact True.intro
      | (with_reducible refine Late.mk ?_
         exact rfl)
      | (fail_if_success with_reducible apply stopA
         fail_if_success with_reducible apply stopE
         fail_if_success with_reducible apply stopF
         fail_if_success with_reducible apply Exists.intro
         fail_if_success with_reducible intro _
         fail_if_success with_reducible apply stopK
         fail_if_success with_reducible apply stopL
         conv => whnf)))
    all_goals (try with_reducible refine Ask.mk ?_)
    all_goals (try first | exact trivial | exact fun _ => trivial)
    all_goals (try dsimp only)
    all_goals (try simp only [inK])
    all_goals (try omega)
    all_goals (simp only [decide_eq_true_eq, decide_eq_false_iff_not] at *)
    all_goals (try subst Q)
    all_goals (first | (simp [cnX, cnY, tb, *]; done) | skip)

def inX (X Q : Int) : Int := if Q = 1 then 6 * X + 5 else if Q = 3 then 6 * X + 1 else 6 * X + 3
def inY (Y Q : Int) : Int := if Q = 0 then 6 * Y + 1 else if Q = 2 then 6 * Y + 5 else 6 * Y + 3
abbrev nInside : FuncId := 46
def kInside : Kon
  | [.agg [.int .i64 X, .int .i64 Y, .int .u8 Q]] => some (0 ≤ X ∧ X ≤ 4096 ∧ 0 ≤ Y ∧ Y ≤ 4096 ∧ 0 ≤ Q ∧ Q ≤ 3, .agg [.int .i64 (inX X Q), .int .i64 (inY Y Q)])
  | _ => none
def FInside : Fam := ⟨Int × Int × Int, fun (X, Y, Q) => [.agg [.int .i64 X, .int .i64 Y, .int .u8 Q]], fun (X, Y, Q) => 0 ≤ X ∧ X ≤ 4096 ∧ 0 ≤ Y ∧ Y ≤ 4096 ∧ 0 ≤ Q ∧ Q ≤ 3, fun (X, Y, Q) => .agg [.int .i64 (inX X Q), .int .i64 (inY Y Q)]⟩
set_option maxHeartbeats 4000000 in
set_option maxRecDepth 100000 in
theorem pInside : PS nInside kInside := by
  refine con [(nCorners, kCorners)] (by simpa using pCorners) FInside (fun _ _ => none) kInside ?_ ?_ Go.Proofs.Tryd.func46 (by kernel_rfl) (by kernel_rfl) (by kernel_rfl) ?_
  · intro args pre s h hp
    unfold kInside at h
    split at h
    · rename_i X Y Q; cases h; exact ⟨(X, Y, Q), by simp [FInside, le2L, SV.le2, SV.le1, le0L, SV.le0], hp, rfl⟩
    · cases h
  · intro i; show 1 ≤ _; decide
  · rintro ⟨X, Y, Q⟩ hp
    replace hp : 0 ≤ X ∧ X ≤ 4096 ∧ 0 ≤ Y ∧ Y ≤ 4096 ∧ 0 ≤ Q ∧ Q ≤ 3 := hp
    have hQ : Q = 0 ∨ Q = 1 ∨ Q = 2 ∨ Q = 3 := by omega
    have ex : (cnX X Q 0 + cnX X Q 1 + cnX X Q 2) = 3 * inX X Q := by
      rcases hQ with rfl | rfl | rfl | rfl <;> simp [cnX, tb, inX] <;> omega
    have ey : (cnY Y Q 0 + cnY Y Q 1 + cnY Y Q 2) = 3 * inY Y Q := by
      rcases hQ with rfl | rfl | rfl | rfl <;> simp [cnY, tb, inY] <;> omega
    have bx : 0 ≤ inX X Q ∧ inX X Q ≤ 30000 ∧ 0 ≤ cnX X Q 0 ∧ 0 ≤ cnX X Q 1 ∧ 0 ≤ cnX X Q 2 := by
      rcases hQ with rfl | rfl | rfl | rfl <;> simp [cnX, tb, inX] <;> omega
    have bY : 0 ≤ inY Y Q ∧ inY Y Q ≤ 30000 ∧ 0 ≤ cnY Y Q 0 ∧ 0 ≤ cnY Y Q 1 ∧ 0 ≤ cnY Y Q 2 := by
      rcases hQ with rfl | rfl | rfl | rfl <;> simp [cnY, tb, inY] <;> omega
    have dx : (3 * inX X Q).tdiv 3 = inX X Q := Int.mul_tdiv_cancel_left _ (by omega)
    have dy : (3 * inY Y Q).tdiv 3 = inY Y Q := Int.mul_tdiv_cancel_left _ (by omega)
    repeat (any_goals (first
      | (with_reducible refine And.intro (Ask.mk ?_) ?_
         first | exact trivial | exact fun _ => trivial)
      | with_reducible refine And.intro ?_ ?_
      | with_reducible refine Br.mk (fun h => ?_) (fun h => ?_)
      | with_reducible exact True.intro
      | (with_reducible refine Late.mk ?_
         exact rfl)
      | (fail_if_success with_reducible apply stopA
         fail_if_success with_reducible apply stopE
         fail_if_success with_reducible apply stopF
         fail_if_success with_reducible apply Exists.intro
         fail_if_success with_reducible intro _
         fail_if_success with_reducible apply stopK
         fail_if_success with_reducible apply stopL
         conv => whnf)))
    all_goals (try with_reducible refine Ask.mk ?_)
    all_goals (try first | exact trivial | exact fun _ => trivial)
    all_goals (try dsimp only)
    all_goals (try simp only [ex, ey, dx, dy])
    all_goals (try simp only [inK])
    all_goals omega

end Go.Proofs.YthfkpmobmnfgcaaDoor.V

/-
  Contracts of the sheets and cells. Conditions: none.
-/
namespace Go.Proofs.YthfkpmobmnfgcaaDoor.V
open Go

def shErr (W H : Int) : Int := if 1 ≤ W ∧ 1 ≤ H ∧ W ≤ 256 ∧ H ≤ 256 ∧ W * H ≤ 256 then 0 else 1
theorem shErr_mul {W H : Int} (h1 : 1 ≤ W) (h2 : 1 ≤ H) (h3 : W ≤ 256) (h4 : H ≤ 256) : 1 ≤ W * H ∧ W * H ≤ 65536 := by
  have a : 1 * 1 ≤ W * H := Int.mul_le_mul h1 h2 (by omega) (by omega)
  have b : W * H ≤ 256 * 256 := Int.mul_le_mul h3 h4 (by omega) (by omega)
  omega

abbrev nSheetsCheck : FuncId := 33
def kSheetsCheck : Kon
  | [.agg [.int .i64 W, .int .i64 H]] => some (True, .int .i64 (shErr W H))
  | _ => none
def FSheetsCheck : Fam := ⟨Int × Int, fun (W, H) => [.agg [.int .i64 W, .int .i64 H]], fun _ => True, fun (W, H) => .int .i64 (shErr W H)⟩
set_option maxRecDepth 100000 in
theorem pSheetsCheck : PS 33 kSheetsCheck := by
  refine con [] (by simp) FSheetsCheck (fun _ _ => none) kSheetsCheck ?_ ?_ Go.Proofs.Tryd.func33 (by kernel_rfl) (by kernel_rfl) (by kernel_rfl) ?_
  · intro args pre s h hp
    unfold kSheetsCheck at h
    split at h
    · rename_i W H; cases h; exact ⟨(W, H), by simp [FSheetsCheck, le2L, SV.le2, SV.le1, le0L, SV.le0], trivial, rfl⟩
    · cases h
  · intro i; show 1 ≤ _; decide
  · rintro ⟨W, H⟩ -
    repeat (any_goals (first
      | (with_reducible refine And.intro (Ask.mk ?_) ?_
         first | exact trivial | exact fun _ => trivial)
      | with_reducible refine And.intro ?_ ?_
      | with_reducible refine Br.mk (fun h => ?_) (fun h => ?_)
      | with_reducible exact True.intro
      | (with_reducible refine Late.mk ?_
         exact rfl)
      | (fail_if_success with_reducible apply stopA
         fail_if_success with_reducible apply stopE
         fail_if_success with_reducible apply stopF
         fail_if_success with_reducible apply Exists.intro
         fail_if_success with_reducible intro _
         fail_if_success with_reducible apply stopK
         fail_if_success with_reducible apply stopL
         conv => whnf)))
    all_goals (try with_reducible refine Ask.mk ?_)
    all_goals (try first | exact trivial | exact fun _ => trivial)
    all_goals (try dsimp only)
    · intro h
      simp at h
      have := shErr_mul (W := W) (H := H) (by omega) (by omega) (by omega) (by omega)
      simp only [inK]; omega
    · simp [shErr] at h ⊢; omega
    · simp [shErr] at h ⊢; omega

def hasB (W H i : Int) : Bool := decide (0 ≤ i) && decide (i < 4 * W * H)
abbrev nHas : FuncId := 60
def kHas : Kon
  | [.agg [.int .i64 W, .int .i64 H], .int .i64 i] => some (shErr W H = 0, .bool (hasB W H i))
  | _ => none
def FHas : Fam := ⟨Int × Int × Int, fun (W, H, i) => [.agg [.int .i64 W, .int .i64 H], .int .i64 i], fun (W, H, _) => shErr W H = 0, fun (W, H, i) => .bool (hasB W H i)⟩
theorem shErr_zero {W H : Int} (h : shErr W H = 0) : 1 ≤ W ∧ 1 ≤ H ∧ W ≤ 256 ∧ H ≤ 256 ∧ 1 ≤ W * H ∧ W * H ≤ 256 ∧ 4 * W * H = 4 * (W * H) := by
  unfold shErr at h
  split at h
  · rename_i hc
    obtain ⟨h1, h2, h3, h4, h5⟩ := hc
    have := shErr_mul h1 h2 h3 h4
    exact ⟨h1, h2, h3, h4, this.1, h5, Int.mul_assoc _ _ _⟩
  · cases h
set_option maxRecDepth 100000 in
theorem pHas : PS 60 kHas := by
  refine con [] (by simp) FHas (fun _ _ => none) kHas ?_ ?_ Go.Proofs.Tryd.func60 (by kernel_rfl) (by kernel_rfl) (by kernel_rfl) ?_
  · intro args pre s h hp
    unfold kHas at h
    split at h
    · rename_i W H i; cases h; exact ⟨(W, H, i), by simp [FHas, le2L, SV.le2, SV.le1, le0L, SV.le0], hp, rfl⟩
    · cases h
  · intro i; show 2 ≤ _; decide
  · rintro ⟨W, H, i⟩ hp
    obtain ⟨h1, h2, h3, h4, h5, h6, h7⟩ := shErr_zero hp
    repeat (any_goals (first
      | (with_reducible refine And.intro (Ask.mk ?_) ?_
         first | exact trivial | exact fun _ => trivial)
      | with_reducible refine And.intro ?_ ?_
      | with_reducible refine Br.mk (fun h => ?_) (fun h => ?_)
      | with_reducible exact True.intro
      | (with_reducible refine Late.mk ?_
         exact rfl)
      | (fail_if_success with_reducible apply stopA
         fail_if_success with_reducible apply stopE
         fail_if_success with_reducible apply stopF
         fail_if_success with_reducible apply Exists.intro
         fail_if_success with_reducible intro _
         fail_if_success with_reducible apply stopK
         fail_if_success with_reducible apply stopL
         conv => whnf)))
    all_goals (try with_reducible refine Ask.mk ?_)
    all_goals (try first | exact trivial | exact fun _ => trivial)
    all_goals (try dsimp only)
    · intro _; simp only [inK]; omega
    · intro _; simp only [inK]; omega
    · rfl

abbrev nCell : FuncId := 61
def kCell : Kon
  | [.agg [.int .i64 W, .int .i64 _], .int .i64 i] => some (1 ≤ W ∧ W ≤ 256 ∧ 0 ≤ i ∧ i ≤ 1024, .agg [.int .i64 (i / 4 % W), .int .i64 (i / 4 / W), .int .u8 (i % 4)])
  | _ => none
def FCell : Fam := ⟨Int × Int × Int, fun (W, H, i) => [.agg [.int .i64 W, .int .i64 H], .int .i64 i], fun (W, _, i) => 1 ≤ W ∧ W ≤ 256 ∧ 0 ≤ i ∧ i ≤ 1024, fun (W, _, i) => .agg [.int .i64 (i / 4 % W), .int .i64 (i / 4 / W), .int .u8 (i % 4)]⟩
set_option maxRecDepth 100000 in
theorem pCell : PS 61 kCell := by
  refine con [] (by simp) FCell (fun _ _ => none) kCell ?_ ?_ Go.Proofs.Tryd.func61 (by kernel_rfl) (by kernel_rfl) (by kernel_rfl) ?_
  · intro args pre s h hp
    unfold kCell at h
    split at h
    · rename_i W H i; cases h; exact ⟨(W, H, i), by simp [FCell, le2L, SV.le2, SV.le1, le0L, SV.le0], hp, rfl⟩
    · cases h
  · intro i; show 2 ≤ _; decide
  · rintro ⟨W, H, i⟩ ⟨h1, h2, h3, h4⟩
    have a1 : i.tdiv 4 = i / 4 := Int.tdiv_eq_ediv_of_nonneg h3
    have a2 : i.tmod 4 = i % 4 := Int.tmod_eq_emod_of_nonneg h3
    have a3 : (i / 4).tdiv W = i / 4 / W := Int.tdiv_eq_ediv_of_nonneg (by omega)
    have a4 : (i / 4).tmod W = i / 4 % W := Int.tmod_eq_emod_of_nonneg (by omega)
    have a5 : i / 4 / W ≤ i / 4 := Int.ediv_le_self _ (by omega)
    have a6 : 0 ≤ i / 4 / W := Int.ediv_nonneg (by omega) (by omega)
    repeat (any_goals (first
      | (with_reducible refine And.intro (Ask.mk ?_) ?_
         first | exact trivial | exact fun _ => trivial)
      | with_reducible refine And.intro ?_ ?_
      | with_reducible refine Br.mk (fun h => ?_) (fun h => ?_)
      | with_reducible exact True.intro
      | (with_reducible refine Late.mk ?_
         exact rfl)
      | (fail_if_success with_reducible apply stopA
         fail_if_success with_reducible apply stopE
         fail_if_success with_reducible apply stopF
         fail_if_success with_reducible apply Exists.intro
         fail_if_success with_reducible intro _
         fail_if_success with_reducible apply stopK
         fail_if_success with_reducible apply stopL
         conv => whnf)))
    all_goals (try with_reducible refine Ask.mk ?_)
    all_goals (try first | exact trivial | exact fun _ => trivial)
    all_goals (try dsimp only)
    all_goals (try simp only [a1, a2, a3, a4])
    all_goals (try simp only [inK])
    all_goals omega

def clErr (X Y Q : Int) : Int := if -4096 ≤ X ∧ X ≤ 4096 ∧ -4096 ≤ Y ∧ Y ≤ 4096 ∧ Q ≤ 3 then 0 else 1
abbrev nCellsCheck : FuncId := 62
def kCellsCheck : Kon
  | [.agg [.int .i64 X, .int .i64 Y, .int .u8 Q]] => some (True, .int .i64 (clErr X Y Q))
  | _ => none
def FCellsCheck : Fam := ⟨Int × Int × Int, fun (X, Y, Q) => [.agg [.int .i64 X, .int .i64 Y, .int .u8 Q]], fun _ => True, fun (X, Y, Q) => .int .i64 (clErr X Y Q)⟩
set_option maxRecDepth 100000 in
theorem pCellsCheck : PS 62 kCellsCheck := by
  refine con [] (by simp) FCellsCheck (fun _ _ => none) kCellsCheck ?_ ?_ Go.Proofs.Tryd.func62 (by kernel_rfl) (by kernel_rfl) (by kernel_rfl) ?_
  · intro args pre s h hp
    unfold kCellsCheck at h
    split at h
    · rename_i X Y Q; cases h; exact ⟨(X, Y, Q), by simp [FCellsCheck, le2L, SV.le2, SV.le1, le0L, SV.le0], trivial, rfl⟩
    · cases h
  · intro i; show 1 ≤ _; decide
  · rintro ⟨X, Y, Q⟩ -
    repeat (any_goals (first
      | (with_reducible refine And.intro (Ask.mk ?_) ?_
         first | exact trivial | exact fun _ => trivial)
      | with_reducible refine And.intro ?_ ?_
      | with_reducible refine Br.mk (fun h => ?_) (fun h => ?_)
      | with_reducible exact True.intro
      | (with_reducible refine Late.mk ?_
         exact rfl)
      | (fail_if_success with_reducible apply stopA
         fail_if_success with_reducible apply stopE
         fail_if_success with_reducible apply stopF
         fail_if_success with_reducible apply Exists.intro
         fail_if_success with_reducible intro _
         fail_if_success with_reducible apply stopK
         fail_if_success with_reducible apply stopL
         conv => whnf)))
    all_goals (try with_reducible refine Ask.mk ?_)
    all_goals (try first | exact trivial | exact fun _ => trivial)
    all_goals (try dsimp only)
    · simp [clErr] at h ⊢; omega
    · simp [clErr] at h ⊢; omega


theorem clErr_zero {X Y Q : Int} (h : clErr X Y Q = 0) : -4096 ≤ X ∧ X ≤ 4096 ∧ -4096 ≤ Y ∧ Y ≤ 4096 ∧ Q ≤ 3 := by
  unfold clErr at h
  split at h
  · assumption
  · cases h

def ceErr (W H i : Int) : Int := if shErr W H = 0 then if hasB W H i = true then 0 else 7 else 1
def ceX (W H i : Int) : Int := if ceErr W H i = 0 then i / 4 % W else 0
def ceY (W H i : Int) : Int := if ceErr W H i = 0 then i / 4 / W else 0
def ceQ (W H i : Int) : Int := if ceErr W H i = 0 then i % 4 else 0
theorem shErr_or (W H : Int) : shErr W H = 0 ∨ shErr W H = 1 := by unfold shErr; split <;> simp
abbrev nSheetsCell : FuncId := 51
def kSheetsCell : Kon
  | [.agg [.int .i64 W, .int .i64 H], .int .i64 i] => some (True, .tup [.agg [.int .i64 (ceX W H i), .int .i64 (ceY W H i), .int .u8 (ceQ W H i)], .int .i64 (ceErr W H i)])
  | _ => none
def FSheetsCell : Fam := ⟨Int × Int × Int, fun (W, H, i) => [.agg [.int .i64 W, .int .i64 H], .int .i64 i], fun _ => True, fun (W, H, i) => .tup [.agg [.int .i64 (ceX W H i), .int .i64 (ceY W H i), .int .u8 (ceQ W H i)], .int .i64 (ceErr W H i)]⟩
set_option maxRecDepth 100000 in
theorem pSheetsCell : PS 51 kSheetsCell := by
  refine con [(33, kSheetsCheck), (60, kHas), (61, kCell)] (by simpa using ⟨pSheetsCheck, pHas, pCell⟩) FSheetsCell (fun _ _ => none) kSheetsCell ?_ ?_ Go.Proofs.Tryd.func51 (by kernel_rfl) (by kernel_rfl) (by kernel_rfl) ?_
  · intro args pre s h hp
    unfold kSheetsCell at h
    split at h
    · rename_i W H i; cases h; exact ⟨(W, H, i), by simp [FSheetsCell, le2L, SV.le2, SV.le1, le0L, SV.le0], trivial, rfl⟩
    · cases h
  · intro i; show 2 ≤ _; decide
  · rintro ⟨W, H, i⟩ -
    repeat (any_goals (first
      | (with_reducible refine And.intro (Ask.mk ?_) ?_
         first | exact trivial | exact fun _ => trivial)
      | with_reducible refine And.intro ?_ ?_
      | with_reducible refine Br.mk (fun h => ?_) (fun h => ?_)
      | with_reducible exact True.intro
      | (with_reducible refine Late.mk ?_
         exact rfl)
      | (fail_if_success with_reducible apply stopA
         fail_if_success with_reducible apply stopE
         fail_if_success with_reducible apply stopF
         fail_if_success with_reducible apply Exists.intro
         fail_if_success with_reducible intro _
         fail_if_success with_reducible apply stopK
         fail_if_success with_reducible apply stopL
         conv => whnf)))
    all_goals (try with_reducible refine Ask.mk ?_)
    all_goals (try first | exact trivial | exact fun _ => trivial)
    all_goals (try dsimp only)
    all_goals (try simp only [ceX, ceY, ceQ, ceErr])
    all_goals (try simp at h)
    all_goals (first | (simp [h]; done) | skip)
    all_goals (try (rename_i h0; simp at h0; simp [h, h0]; done))
    · rw [if_neg h]; exact (shErr_or W H).resolve_left h
    · rename_i h0; simp at h0
      obtain ⟨h1, h2, h3, h4, h5, h6, h7⟩ := shErr_zero h0
      simp [hasB] at h
      omega

end Go.Proofs.YthfkpmobmnfgcaaDoor.V

/-
  Contracts of the neighbours of cells. Conditions: none.
-/
namespace Go.Proofs.YthfkpmobmnfgcaaDoor.V
open Go

def ndx (Q e : Int) : Int := [tb [0, 1, 0, -1] Q.toNat, tb [0, 0, 0, 0] Q.toNat, tb [0, 0, 0, 0] Q.toNat].getD e.toNat 0
def ndy (Q e : Int) : Int := [tb [-1, 0, 1, 0] Q.toNat, tb [0, 0, 0, 0] Q.toNat, tb [0, 0, 0, 0] Q.toNat].getD e.toNat 0
def ndq (Q e : Int) : Int := [tb [2, 3, 0, 1] Q.toNat, tb [1, 0, 3, 2] Q.toNat, tb [3, 2, 1, 0] Q.toNat].getD e.toNat 0
def nbErr (X Y Q e : Int) : Int := if clErr X Y Q = 0 ∧ e ≤ 2 then (if clErr (ndx Q e + X) (ndy Q e + Y) (ndq Q e) = 0 then 0 else 3) else 1
def nbX (X Y Q e : Int) : Int := if nbErr X Y Q e = 0 then ndx Q e + X else 0
def nbY (X Y Q e : Int) : Int := if nbErr X Y Q e = 0 then ndy Q e + Y else 0
def nbQ (X Y Q e : Int) : Int := if nbErr X Y Q e = 0 then ndq Q e else 0
theorem nd_le {Q e : Int} (h1 : 0 ≤ Q) (h2 : Q ≤ 3) (h3 : 0 ≤ e) (h4 : e ≤ 2) : -1 ≤ ndx Q e ∧ ndx Q e ≤ 1 ∧ -1 ≤ ndy Q e ∧ ndy Q e ≤ 1 ∧ 0 ≤ ndq Q e ∧ ndq Q e ≤ 3 := by
  have : ∀ q : Nat, q < 4 → ∀ e : Nat, e < 3 → -1 ≤ ndx q e ∧ ndx q e ≤ 1 ∧ -1 ≤ ndy q e ∧ ndy q e ≤ 1 ∧ 0 ≤ ndq q e ∧ ndq q e ≤ 3 := by decide
  have := this Q.toNat (by omega) e.toNat (by omega)
  rwa [Int.toNat_of_nonneg h1, Int.toNat_of_nonneg h3] at this
theorem clErr_or (X Y Q : Int) : clErr X Y Q = 0 ∨ clErr X Y Q = 1 := by unfold clErr; split <;> simp
abbrev nCellsNeighbour : FuncId := 52
def kCellsNeighbour : Kon
  | [.agg [.int .i64 X, .int .i64 Y, .int .u8 Q], .int .u8 e] => some (0 ≤ Q ∧ 0 ≤ e, .tup [.agg [.int .i64 (nbX X Y Q e), .int .i64 (nbY X Y Q e), .int .u8 (nbQ X Y Q e)], .int .i64 (nbErr X Y Q e)])
  | _ => none
def FCellsNeighbour : Fam := ⟨Int × Int × Int × Int, fun (X, Y, Q, e) => [.agg [.int .i64 X, .int .i64 Y, .int .u8 Q], .int .u8 e], fun (_, _, Q, e) => 0 ≤ Q ∧ 0 ≤ e,
  fun (X, Y, Q, e) => .tup [.agg [.int .i64 (nbX X Y Q e), .int .i64 (nbY X Y Q e), .int .u8 (nbQ X Y Q e)], .int .i64 (nbErr X Y Q e)]⟩
set_option maxRecDepth 100000 in
theorem pCellsNeighbour : PS 52 kCellsNeighbour := by
  refine con [(62, kCellsCheck)] (by simpa using pCellsCheck) FCellsNeighbour (fun _ _ => none) kCellsNeighbour ?_ ?_ Go.Proofs.Tryd.func52 (by kernel_rfl) (by kernel_rfl) (by kernel_rfl) ?_
  · intro args pre s h hp
    unfold kCellsNeighbour at h
    split at h
    · rename_i X Y Q e; cases h; exact ⟨(X, Y, Q, e), by simp [FCellsNeighbour, le2L, SV.le2, SV.le1, le0L, SV.le0], hp, rfl⟩
    · cases h
  · intro i; show 2 ≤ _; decide
  · rintro ⟨X, Y, Q, e⟩ ⟨hQ, he⟩
    repeat (any_goals (first
      | (with_reducible refine And.intro (Ask.mk ?_) ?_
         first | exact trivial | exact fun _ => trivial)
      | with_reducible refine And.intro ?_ ?_
      | with_reducible refine Br.mk (fun h => ?_) (fun h => ?_)
      | with_reducible exact True.intro
      | (with_reducible refine Late.mk ?_
         exact rfl)
      | (fail_if_success with_reducible apply stopA
         fail_if_success with_reducible apply stopE
         fail_if_success with_reducible apply stopF
         fail_if_success with_reducible apply Exists.intro
         fail_if_success with_reducible intro _
         fail_if_success with_reducible apply stopK
         fail_if_success with_reducible apply stopL
         conv => whnf)))
    all_goals (try with_reducible refine Ask.mk ?_)
    all_goals (try first | exact trivial | exact fun _ => trivial)
    all_goals (try dsimp only)
    all_goals (try simp only [nbX, nbY, nbQ])
    all_goals (try (have e0 : nbErr X Y Q e = 1 := by simp [nbErr]; simp at h; omega); simp [e0]; done)
    · simp at h; have := clErr_zero h.1; omega
    · simp at h; omega
    all_goals (try (change inK .i64 (ndx Q e + X); simp at h; have := clErr_zero h.1; have n := nd_le hQ (by omega) he (by omega); simp only [inK]; omega))
    all_goals (try (change inK .i64 (ndy Q e + Y); simp at h; have := clErr_zero h.1; have n := nd_le hQ (by omega) he (by omega); simp only [inK]; omega))
    all_goals (rename_i h0; simp at h0)
    all_goals (change (!decide (clErr (ndx Q e + X) (ndy Q e + Y) (ndq Q e) = 0)) = _ at h; simp at h)
    all_goals (try (have e0 : nbErr X Y Q e = 3 := by simp [nbErr, h0, h]); simp [e0]; done)
    all_goals (have e0 : nbErr X Y Q e = 0 := by simp [nbErr, h0, h])
    all_goals (simp only [e0, if_true])
    · rfl
    · rfl
    · rfl

def idErr (W H X Y Q : Int) : Int := if shErr W H = 0 then (if clErr X Y Q = 0 ∧ 0 ≤ X ∧ X < W ∧ 0 ≤ Y ∧ Y < H then 0 else 7) else 1
def idVal (W H X Y Q : Int) : Int := if idErr W H X Y Q = 0 then 4 * (Y * W + X) + Q else 0
abbrev nId : FuncId := 53
def kId : Kon
  | [.agg [.int .i64 W, .int .i64 H], .agg [.int .i64 X, .int .i64 Y, .int .u8 Q]] => some (0 ≤ Q, .tup [.int .i64 (idVal W H X Y Q), .int .i64 (idErr W H X Y Q)])
  | _ => none
def FId : Fam := ⟨Int × Int × Int × Int × Int, fun (W, H, X, Y, Q) => [.agg [.int .i64 W, .int .i64 H], .agg [.int .i64 X, .int .i64 Y, .int .u8 Q]], fun (_, _, _, _, Q) => 0 ≤ Q,
  fun (W, H, X, Y, Q) => .tup [.int .i64 (idVal W H X Y Q), .int .i64 (idErr W H X Y Q)]⟩
theorem id_le {W H X Y : Int} (h : shErr W H = 0) (_ : 0 ≤ X) (h2 : X < W) (h3 : 0 ≤ Y) (h4 : Y < H) : 0 ≤ Y * W ∧ Y * W + X < W * H ∧ W * H ≤ 256 := by
  obtain ⟨a1, a2, a3, a4, a5, a6, a7⟩ := shErr_zero h
  have b : Y * W ≤ (H - 1) * W := Int.mul_le_mul_of_nonneg_right (by omega) (by omega)
  have c : (H - 1) * W = W * H - W := by rw [Int.sub_mul, Int.one_mul, Int.mul_comm]
  have d : 0 ≤ Y * W := Int.mul_nonneg h3 (by omega)
  omega
set_option maxRecDepth 100000 in
theorem pId : PS 53 kId := by
  refine con [(33, kSheetsCheck), (62, kCellsCheck)] (by simpa using ⟨pSheetsCheck, pCellsCheck⟩) FId (fun _ _ => none) kId ?_ ?_ Go.Proofs.Tryd.func53 (by kernel_rfl) (by kernel_rfl) (by kernel_rfl) ?_
  · intro args pre s h hp
    unfold kId at h
    split at h
    · rename_i W H X Y Q; cases h; exact ⟨(W, H, X, Y, Q), by simp [FId, le2L, SV.le2, SV.le1, le0L, SV.le0], hp, rfl⟩
    · cases h
  · intro i; show 2 ≤ _; decide
  · rintro ⟨W, H, X, Y, Q⟩ hQ
    replace hQ : 0 ≤ Q := hQ
    repeat (any_goals (first
      | (with_reducible refine And.intro (Ask.mk ?_) ?_
         first | exact trivial | exact fun _ => trivial)
      | with_reducible refine And.intro ?_ ?_
      | with_reducible refine Br.mk (fun h => ?_) (fun h => ?_)
      | with_reducible exact True.intro
      | (with_reducible refine Late.mk ?_
         exact rfl)
      | (fail_if_success with_reducible apply stopA
         fail_if_success with_reducible apply stopE
         fail_if_success with_reducible apply stopF
         fail_if_success with_reducible apply Exists.intro
         fail_if_success with_reducible intro _
         fail_if_success with_reducible apply stopK
         fail_if_success with_reducible apply stopL
         conv => whnf)))
    all_goals (try with_reducible refine Ask.mk ?_)
    all_goals (try first | exact trivial | exact fun _ => trivial)
    all_goals (try dsimp only)
    all_goals (try (have e0 : idErr W H X Y Q = 1 := by (simp at h; simp [idErr, h])); rw [idVal, e0]; rfl)
    · simp at h; rw [idErr, if_neg h]; exact (shErr_or W H).resolve_left h
    all_goals (try ((have e0 : idErr W H X Y Q = 7 := by (rename_i h0; simp at h0; simp at h; rw [idErr, if_pos h0, if_neg]; omega)); first | exact e0.symm | (rw [idVal, e0]; rfl)))
    all_goals (rename_i h0; simp at h0; simp at h)
    all_goals (have b := id_le (X := X) (Y := Y) h0 (by omega) (by omega) (by omega) (by omega); have c := clErr_zero h.1.1.1.1)
    all_goals (try (simp only [inK]; omega))
    all_goals (have e0 : idErr W H X Y Q = 0 := by rw [idErr, if_pos h0, if_pos]; omega)
    · rw [idVal, e0]; rfl
    · exact e0.symm

def neErr (W H i e : Int) : Int := if ceErr W H i = 0 then (if nbErr (ceX W H i) (ceY W H i) (ceQ W H i) e = 0 then idErr W H (nbX (ceX W H i) (ceY W H i) (ceQ W H i) e) (nbY (ceX W H i) (ceY W H i) (ceQ W H i) e) (nbQ (ceX W H i) (ceY W H i) (ceQ W H i) e) else 1) else ceErr W H i
def neVal (W H i e : Int) : Int := if ceErr W H i = 0 then (if nbErr (ceX W H i) (ceY W H i) (ceQ W H i) e = 0 then idVal W H (nbX (ceX W H i) (ceY W H i) (ceQ W H i) e) (nbY (ceX W H i) (ceY W H i) (ceQ W H i) e) (nbQ (ceX W H i) (ceY W H i) (ceQ W H i) e) else 0) else 0
theorem ceQ_le (W H i : Int) : 0 ≤ ceQ W H i ∧ ceQ W H i ≤ 3 := by
  unfold ceQ; split <;> omega
theorem nbQ_le {X Y Q e : Int} (h1 : 0 ≤ Q) (h3 : 0 ≤ e) : 0 ≤ nbQ X Y Q e ∧ nbQ X Y Q e ≤ 3 := by
  unfold nbQ
  split
  · rename_i h
    unfold nbErr at h
    split at h
    · rename_i hc
      have := clErr_zero hc.1
      have := nd_le h1 (by omega) h3 hc.2
      omega
    · cases h
  · omega
abbrev nNeighbour : FuncId := 42
def kNeighbour : Kon
  | [.agg [.int .i64 W, .int .i64 H], .int .i64 i, .int .u8 e] => some (0 ≤ e, .tup [.int .i64 (neVal W H i e), .int .i64 (neErr W H i e)])
  | _ => none
def FNeighbour : Fam := ⟨Int × Int × Int × Int, fun (W, H, i, e) => [.agg [.int .i64 W, .int .i64 H], .int .i64 i, .int .u8 e], fun (_, _, _, e) => 0 ≤ e,
  fun (W, H, i, e) => .tup [.int .i64 (neVal W H i e), .int .i64 (neErr W H i e)]⟩
set_option maxRecDepth 100000 in
theorem pNeighbour : PS 42 kNeighbour := by
  refine con [(51, kSheetsCell), (52, kCellsNeighbour), (53, kId)] (by simpa using ⟨pSheetsCell, pCellsNeighbour, pId⟩) FNeighbour (fun _ _ => none) kNeighbour ?_ ?_ Go.Proofs.Tryd.func42 (by kernel_rfl) (by kernel_rfl) (by kernel_rfl) ?_
  · intro args pre s h hp
    unfold kNeighbour at h
    split at h
    · rename_i W H i e; cases h; exact ⟨(W, H, i, e), by simp [FNeighbour, le2L, SV.le2, SV.le1, le0L, SV.le0], hp, rfl⟩
    · cases h
  · intro i; show 3 ≤ _; decide
  · rintro ⟨W, H, i, e⟩ he
    replace he : 0 ≤ e := he
    repeat (any_goals (first
      | (with_reducible refine And.intro (Ask.mk ?_) ?_
         first | exact trivial | exact fun _ => trivial)
      | with_reducible refine And.intro ?_ ?_
      | with_reducible refine Br.mk (fun h => ?_) (fun h => ?_)
      | with_reducible exact True.intro
      | (with_reducible refine Late.mk ?_
         exact rfl)
      | (fail_if_success with_reducible apply stopA
         fail_if_success with_reducible apply stopE
         fail_if_success with_reducible apply stopF
         fail_if_success with_reducible apply Exists.intro
         fail_if_success with_reducible intro _
         fail_if_success with_reducible apply stopK
         fail_if_success with_reducible apply stopL
         conv => whnf)))
    all_goals (try with_reducible refine Ask.mk ?_)
    all_goals (try first | exact trivial | exact fun _ => trivial)
    all_goals (try dsimp only)
    all_goals (try exact he)
    all_goals (try exact (ceQ_le W H i).1)
    all_goals (try exact ⟨(ceQ_le W H i).1, he⟩)
    all_goals (try exact (nbQ_le (ceQ_le W H i).1 he).1)
    all_goals (simp at h; (try rename_i h0; simp at h0); simp [neErr, neVal, *])

end Go.Proofs.YthfkpmobmnfgcaaDoor.V

/-
  Contracts of small functions of creases. Conditions: none.
-/
namespace Go.Proofs.YthfkpmobmnfgcaaDoor.V
open Go

def nmErr (W H i e : Int) : Int := neErr W H i e
def nmCell (W H i e : Int) : Int := if neErr W H i e = 0 then min i (neVal W H i e) else 0
def nmEdge (W H i e : Int) : Int := if neErr W H i e = 0 then e else 0
abbrev nName : FuncId := 37
def kName : Kon
  | [.agg [.int .i64 W, .int .i64 H], .int .i64 i, .int .u8 e] => some (0 ≤ e, .tup [.agg [.int .i64 (nmCell W H i e), .int .u8 (nmEdge W H i e)], .int .i64 (neErr W H i e)])
  | _ => none
def FName : Fam := ⟨Int × Int × Int × Int, fun (W, H, i, e) => [.agg [.int .i64 W, .int .i64 H], .int .i64 i, .int .u8 e], fun (_, _, _, e) => 0 ≤ e, fun (W, H, i, e) => .tup [.agg [.int .i64 (nmCell W H i e), .int .u8 (nmEdge W H i e)], .int .i64 (neErr W H i e)]⟩
set_option maxHeartbeats 4000000 in
set_option maxRecDepth 100000 in
theorem pName : PS nName kName := by
  refine con [(nNeighbour, kNeighbour)] (by simpa using pNeighbour) FName (fun _ _ => none) kName ?_ ?_ Go.Proofs.Tryd.func37 (by kernel_rfl) (by kernel_rfl) (by kernel_rfl) ?_
  · intro args pre s h hp
    unfold kName at h
    split at h
    · rename_i W H i e; cases h; exact ⟨(W, H, i, e), by simp [FName, le2L, SV.le2, SV.le1, le0L, SV.le0], hp, rfl⟩
    · cases h
  · intro i; show 3 ≤ _; decide
  · rintro ⟨W, H, i, e⟩ hp
    replace hp : 0 ≤ e := hp
    repeat (any_goals (first
      | (with_reducible refine And.intro (Ask.mk ?_) ?_
         first | exact trivial | exact fun _ => trivial)
      | with_reducible refine And.intro ?_ ?_
      | with_reducible refine Br.mk (fun h => ?_) (fun h => ?_)
      | with_reducible exact True.intro
      | (with_reducible refine Late.mk ?_
         exact rfl)
      | (fail_if_success with_reducible apply stopA
         fail_if_success with_reducible apply stopE
         fail_if_success with_reducible apply stopF
         fail_if_success with_reducible apply Exists.intro
         fail_if_success with_reducible intro _
         fail_if_success with_reducible apply stopK
         fail_if_success with_reducible apply stopL
         conv => whnf)))
    all_goals (try with_reducible refine Ask.mk ?_)
    all_goals (try first | exact trivial | exact fun _ => trivial)
    all_goals (try dsimp only)
    all_goals (try exact hp)
    all_goals (simp at h; simp [nmCell, nmEdge, h])

abbrev nUnit : FuncId := 38
def kUnit : Kon
  | [.agg [.int .i64 a, .int .u8 b, .int .u8 _]] => some (True, .agg [.int .i64 a, .int .u8 b])
  | _ => none
def FUnit : Fam := ⟨Int × Int × Int, fun (a, b, c) => [.agg [.int .i64 a, .int .u8 b, .int .u8 c]], fun (_, _, _) => True, fun (a, b, _) => .agg [.int .i64 a, .int .u8 b]⟩
set_option maxHeartbeats 4000000 in
set_option maxRecDepth 100000 in
theorem pUnit : PS nUnit kUnit := by
  refine con [] (by simp) FUnit (fun _ _ => none) kUnit ?_ ?_ Go.Proofs.Tryd.func38 (by kernel_rfl) (by kernel_rfl) (by kernel_rfl) ?_
  · intro args pre s h hp
    unfold kUnit at h
    split at h
    · rename_i a b c; cases h; exact ⟨(a, b, c), by simp [FUnit, le2L, SV.le2, SV.le1, le0L, SV.le0], hp, rfl⟩
    · cases h
  · intro i; show 1 ≤ _; decide
  · rintro ⟨a, b, c⟩ hp
    replace hp : True := hp
    repeat (any_goals (first
      | (with_reducible refine And.intro (Ask.mk ?_) ?_
         first | exact trivial | exact fun _ => trivial)
      | with_reducible refine And.intro ?_ ?_
      | with_reducible refine Br.mk (fun h => ?_) (fun h => ?_)
      | with_reducible exact True.intro
      | (with_reducible refine Late.mk ?_
         exact rfl)
      | (fail_if_success with_reducible apply stopA
         fail_if_success with_reducible apply stopE
         fail_if_success with_reducible apply stopF
         fail_if_success with_reducible apply Exists.intro
         fail_if_success with_reducible intro _
         fail_if_success with_reducible apply stopK
         fail_if_success with_reducible apply stopL
         conv => whnf)))
    all_goals (try with_reducible refine Ask.mk ?_)
    all_goals (try first | exact trivial | exact fun _ => trivial)
    all_goals (try dsimp only)

def ordU (a b c d : Int) : Int := if a = c then b - d else a - c
abbrev nOrder : FuncId := 39
def kOrder : Kon
  | [.agg [.int .i64 a, .int .u8 b], .agg [.int .i64 c, .int .u8 d]] => some (inK .i64 (a - c) ∧ inK .u8 b ∧ inK .u8 d, .int .i64 (ordU a b c d))
  | _ => none
def FOrder : Fam := ⟨Int × Int × Int × Int, fun (a, b, c, d) => [.agg [.int .i64 a, .int .u8 b], .agg [.int .i64 c, .int .u8 d]], fun (a, b, c, d) => inK .i64 (a - c) ∧ inK .u8 b ∧ inK .u8 d, fun (a, b, c, d) => .int .i64 (ordU a b c d)⟩
set_option maxHeartbeats 4000000 in
set_option maxRecDepth 100000 in
theorem pOrder : PS nOrder kOrder := by
  refine con [] (by simp) FOrder (fun _ _ => none) kOrder ?_ ?_ Go.Proofs.Tryd.func39 (by kernel_rfl) (by kernel_rfl) (by kernel_rfl) ?_
  · intro args pre s h hp
    unfold kOrder at h
    split at h
    · rename_i a b c d; cases h; exact ⟨(a, b, c, d), by simp [FOrder, le2L, SV.le2, SV.le1, le0L, SV.le0], hp, rfl⟩
    · cases h
  · intro i; show 2 ≤ _; decide
  · rintro ⟨a, b, c, d⟩ hp
    replace hp : inK .i64 (a - c) ∧ inK .u8 b ∧ inK .u8 d := hp
    repeat (any_goals (first
      | (with_reducible refine And.intro (Ask.mk ?_) ?_
         first | exact trivial | exact fun _ => trivial)
      | with_reducible refine And.intro ?_ ?_
      | with_reducible refine Br.mk (fun h => ?_) (fun h => ?_)
      | with_reducible exact True.intro
      | (with_reducible refine Late.mk ?_
         exact rfl)
      | (fail_if_success with_reducible apply stopA
         fail_if_success with_reducible apply stopE
         fail_if_success with_reducible apply stopF
         fail_if_success with_reducible apply Exists.intro
         fail_if_success with_reducible intro _
         fail_if_success with_reducible apply stopK
         fail_if_success with_reducible apply stopL
         conv => whnf)))
    all_goals (try with_reducible refine Ask.mk ?_)
    all_goals (try first | exact trivial | exact fun _ => trivial)
    all_goals (try dsimp only)
    all_goals (simp at h)
    all_goals (try (simp [ordU, h]; done))
    all_goals (simp only [inK] at hp ⊢; omega)

def isKB (k : Int) : Bool := decide (1 ≤ k) && decide (k ≤ 3)
abbrev nIsKind : FuncId := 36
def kIsKind : Kon
  | [.int .u8 k] => some (True, .bool (isKB k))
  | _ => none
def FIsKind : Fam := ⟨Int, fun k => [.int .u8 k], fun _ => True, fun k => .bool (isKB k)⟩
set_option maxHeartbeats 4000000 in
set_option maxRecDepth 100000 in
theorem pIsKind : PS nIsKind kIsKind := by
  refine con [] (by simp) FIsKind (fun _ _ => none) kIsKind ?_ ?_ Go.Proofs.Tryd.func36 (by kernel_rfl) (by kernel_rfl) (by kernel_rfl) ?_
  · intro args pre s h hp
    unfold kIsKind at h
    split at h
    · rename_i k; cases h; exact ⟨k, by simp [FIsKind, le2L, SV.le2, SV.le1, SV.le0], hp, rfl⟩
    · cases h
  · intro i; show 1 ≤ _; decide
  · intro (k : Int) hp
    replace hp : True := hp
    repeat (any_goals (first
      | (with_reducible refine And.intro (Ask.mk ?_) ?_
         first | exact trivial | exact fun _ => trivial)
      | with_reducible refine And.intro ?_ ?_
      | with_reducible refine Br.mk (fun h => ?_) (fun h => ?_)
      | with_reducible exact True.intro
      | (with_reducible refine Late.mk ?_
         exact rfl)
      | (fail_if_success with_reducible apply stopA
         fail_if_success with_reducible apply stopE
         fail_if_success with_reducible apply stopF
         fail_if_success with_reducible apply Exists.intro
         fail_if_success with_reducible intro _
         fail_if_success with_reducible apply stopK
         fail_if_success with_reducible apply stopL
         conv => whnf)))
    all_goals (try with_reducible refine Ask.mk ?_)
    all_goals (try first | exact trivial | exact fun _ => trivial)
    all_goals (try dsimp only)
    all_goals rfl

abbrev nCheck1 : FuncId := 35
def kCheck1 : Kon
  | [.agg [.int .i64 _, .int .u8 _, .int .u8 k]] => some (True, .bool (!isKB k))
  | _ => none
def FCheck1 : Fam := ⟨Int × Int × Int, fun (a, b, k) => [.agg [.int .i64 a, .int .u8 b, .int .u8 k]], fun (_, _, _) => True, fun (_, _, k) => .bool (!isKB k)⟩
set_option maxHeartbeats 4000000 in
set_option maxRecDepth 100000 in
theorem pCheck1 : PS nCheck1 kCheck1 := by
  refine con [(nIsKind, kIsKind)] (by simpa using pIsKind) FCheck1 (fun _ _ => none) kCheck1 ?_ ?_ Go.Proofs.Tryd.func35 (by kernel_rfl) (by kernel_rfl) (by kernel_rfl) ?_
  · intro args pre s h hp
    unfold kCheck1 at h
    split at h
    · rename_i a b k; cases h; exact ⟨(a, b, k), by simp [FCheck1, le2L, SV.le2, SV.le1, le0L, SV.le0], hp, rfl⟩
    · cases h
  · intro i; show 1 ≤ _; decide
  · rintro ⟨a, b, k⟩ hp
    replace hp : True := hp
    repeat (any_goals (first
      | (with_reducible refine And.intro (Ask.mk ?_) ?_
         first | exact trivial | exact fun _ => trivial)
      | with_reducible refine And.intro ?_ ?_
      | with_reducible refine Br.mk (fun h => ?_) (fun h => ?_)
      | with_reducible exact True.intro
      | (with_reducible refine Late.mk ?_
         exact rfl)
      | (fail_if_success with_reducible apply stopA
         fail_if_success with_reducible apply stopE
         fail_if_success with_reducible apply stopF
         fail_if_success with_reducible apply Exists.intro
         fail_if_success with_reducible intro _
         fail_if_success with_reducible apply stopK
         fail_if_success with_reducible apply stopL
         conv => whnf)))
    all_goals (try with_reducible refine Ask.mk ?_)
    all_goals (try first | exact trivial | exact fun _ => trivial)
    all_goals (try dsimp only)

end Go.Proofs.YthfkpmobmnfgcaaDoor.V

