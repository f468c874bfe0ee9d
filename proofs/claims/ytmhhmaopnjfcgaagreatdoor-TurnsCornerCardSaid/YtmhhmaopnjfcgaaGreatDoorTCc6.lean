/-
  Parts of the proof: J2 J3 J4 J6 J7 J8 I13 I14 I15 J5 J9 De0 De1. Conditions: none.
-/
import Derived.Test.YtmhhmaopnjfcgaaGreatDoorTCc3
import Derived.Test.YtmhhmaopnjfcgaaGreatDoorTCc5
import Derived.Test.YtmhhmaopnjfcgaaGreatDoorChecked
namespace Go.Proofs.YtmhhmaopnjfcgaaGreatDoor.V.I
open Go
abbrev CallJ := FuncId → List SV → Tr IB → Nat → JR
def callO (cj : CallJ) : CallF := fun f xs h => match cj f xs h.t h.nx with
 | .ok _ s _ h' n' => some (s, ⟨h', n'⟩)
 | .bad => none
inductive XO where
 | loc (p : Pu)
 | kep (p : Pb)
 | lit (s : SV)
def vX (x : XO) (L : List SV) (T : Tr SV) : Option SV := match x with
 | .loc p => L[p.n]?
 | .kep p => T.get p.n
 | .lit s => some s
noncomputable def rdX (x : XO) (L : List SV) (T : Tr SV) (K : SV → JR) : JR := XO.rec (motive := fun _ => List SV → Tr SV → (SV → JR) → JR) (fun p L _ K => getU p L K) (fun p _ T K => getB p T K) (fun s _ _ K => K s) x L T K
theorem rdX_eq (x : XO) (L : List SV) (T : Tr SV) (K : SV → JR) : rdX x L T K = kO (vX x L T) K := by
 cases x with
 | loc p => exact getU_eq p L K
 | kep p => exact getB_eq p T K
 | lit s => rfl
noncomputable def rdL (xs : List XO) (L : List SV) (T : Tr SV) (K : List SV → JR) : JR := List.rec (motive := fun _ => List SV → Tr SV → (List SV → JR) → JR) (fun _ _ K => K []) (fun x _ ih L T K => rdX x L T fun s => ih L T fun r => K (s :: r)) xs L T K
def valBin (E : Env) (h : Hp) (b : BinOp) (T : TypeId) (s t : SV) : Option SV := match s, t with
 | .osl k, .con (.slice none 0 0) => nilI E h b T k
 | s, t => binI E b T s t
noncomputable def slowB (E : Env) (h : Tr IB) (n : Nat) (b : BinOp) (T : TypeId) (s t : SV) (K : SV → JR) : JR := kO (valBin E ⟨h, n⟩ b T s t) fun r => fc2 r K
noncomputable def iAdd (k : IntKind) (a : Int) (k' : IntKind) (c : Int) (K : SV → JR) (_ : JR) : JR := bB (eqK k k') (addZ a c fun r => bB (rgB k r) (K (.int k r)) .bad) .bad
noncomputable def iSub (k : IntKind) (a : Int) (k' : IntKind) (c : Int) (K : SV → JR) (_ : JR) : JR := bB (eqK k k') (subZ a c fun r => bB (rgB k r) (K (.int k r)) .bad) .bad
noncomputable def iMul (k : IntKind) (a : Int) (k' : IntKind) (c : Int) (K : SV → JR) (_ : JR) : JR := bB (eqK k k') (mulZ a c fun r => bB (rgB k r) (K (.int k r)) .bad) .bad
noncomputable def iQuo (k : IntKind) (a : Int) (k' : IntKind) (c : Int) (K : SV → JR) (_ : JR) : JR := bB (eqK k k') (bB (eqZ c (Int.ofNat 0)) .bad (quoZ a c fun r => bB (rgB k r) (K (.int k r)) .bad)) .bad
noncomputable def iRem (k : IntKind) (a : Int) (k' : IntKind) (c : Int) (K : SV → JR) (_ : JR) : JR := bB (eqK k k') (bB (eqZ c (Int.ofNat 0)) .bad (remZ a c fun r => K (.int k r))) .bad
noncomputable def kB (b : Bool) (K : SV → JR) : JR := bB b (K (.bool true)) (K (.bool false))
theorem kB_eq (b : Bool) (K : SV → JR) : kB b K = K (.bool b) := by cases b <;> rfl
noncomputable def iEql (k : IntKind) (a : Int) (k' : IntKind) (c : Int) (K : SV → JR) (_ : JR) : JR := bB (eqK k k') (kB (eqZ a c) K) .bad
noncomputable def iNeq (k : IntKind) (a : Int) (k' : IntKind) (c : Int) (K : SV → JR) (_ : JR) : JR := bB (eqK k k') (bB (eqZ a c) (K (.bool false)) (K (.bool true))) .bad
noncomputable def iLss (k : IntKind) (a : Int) (k' : IntKind) (c : Int) (K : SV → JR) (_ : JR) : JR := bB (eqK k k') (kB (ltZ a c) K) .bad
noncomputable def iLeq (k : IntKind) (a : Int) (k' : IntKind) (c : Int) (K : SV → JR) (_ : JR) : JR := bB (eqK k k') (kB (leZ a c) K) .bad
noncomputable def iGtr (k : IntKind) (a : Int) (k' : IntKind) (c : Int) (K : SV → JR) (_ : JR) : JR := bB (eqK k k') (kB (ltZ c a) K) .bad
noncomputable def iGeq (k : IntKind) (a : Int) (k' : IntKind) (c : Int) (K : SV → JR) (_ : JR) : JR := bB (eqK k k') (kB (leZ c a) K) .bad
noncomputable def iDef (_ : IntKind) (_ : Int) (_ : IntKind) (_ : Int) (_ : SV → JR) (D : JR) : JR := D
noncomputable def intB (b : BinOp) : IntKind → Int → IntKind → Int → (SV → JR) → JR → JR := BinOp.rec (motive := fun _ => IntKind → Int → IntKind → Int → (SV → JR) → JR → JR) iAdd iSub iMul iQuo iRem iDef iDef iDef iDef iDef iDef iEql iNeq iLss iLeq iGtr iGeq b
noncomputable def binF (E : Env) (h : Tr IB) (n : Nat) (b : BinOp) (T : TypeId) (s t : SV) (K : SV → JR) : JR := svInt s (fun k a => svInt t (fun k' c => intB b k a k' c K (slowB E h n b T s t K)) (slowB E h n b T s t K)) (slowB E h n b T s t K)
theorem slowB_eq (E : Env) (h : Tr IB) (n : Nat) (b : BinOp) (T : TypeId) (s t : SV) (K : SV → JR) : slowB E h n b T s t K = kO (valBin E ⟨h, n⟩ b T s t) K := by
 unfold slowB; simp only [fc2_eq]
theorem ofNat0 : (Int.ofNat 0 : Int) = 0 := rfl
theorem iAdd_eq (E : Env) (T : TypeId) (k : IntKind) (a : Int) (k' : IntKind) (c : Int) (K : SV → JR) (D : JR) : iAdd k a k' c K D = kO (binI E .add T (.int k a) (.int k' c)) K := by
 show _ = kO (gd (decide (k = k') && inKb k (a + c)) (.int k (a + c))) K
 unfold iAdd
 simp only [eqK_eq, addZ_eq, rgB_eq, ofNat0]
 cases decide (k = k') <;> cases inKb k (a + c) <;> rfl
theorem iSub_eq (E : Env) (T : TypeId) (k : IntKind) (a : Int) (k' : IntKind) (c : Int) (K : SV → JR) (D : JR) : iSub k a k' c K D = kO (binI E .sub T (.int k a) (.int k' c)) K := by
 show _ = kO (gd (decide (k = k') && inKb k (a - c)) (.int k (a - c))) K
 unfold iSub
 simp only [eqK_eq, subZ_eq, rgB_eq, ofNat0]
 cases decide (k = k') <;> cases inKb k (a - c) <;> rfl
theorem iMul_eq (E : Env) (T : TypeId) (k : IntKind) (a : Int) (k' : IntKind) (c : Int) (K : SV → JR) (D : JR) : iMul k a k' c K D = kO (binI E .mul T (.int k a) (.int k' c)) K := by
 show _ = kO (gd (decide (k = k') && inKb k (a * c)) (.int k (a * c))) K
 unfold iMul
 simp only [eqK_eq, mulZ_eq, rgB_eq, ofNat0]
 cases decide (k = k') <;> cases inKb k (a * c) <;> rfl
theorem iQuo_eq (E : Env) (T : TypeId) (k : IntKind) (a : Int) (k' : IntKind) (c : Int) (K : SV → JR) (D : JR) : iQuo k a k' c K D = kO (binI E .quo T (.int k a) (.int k' c)) K := by
 show _ = kO (gd (decide (k = k') && !decide (c = 0) && inKb k (a.tdiv c)) (.int k (a.tdiv c))) K
 unfold iQuo
 simp only [eqK_eq, eqZ_eq, quoZ_eq, rgB_eq, ofNat0]
 cases decide (k = k') <;> cases decide (c = 0) <;> cases inKb k (a.tdiv c) <;> rfl
theorem iRem_eq (E : Env) (T : TypeId) (k : IntKind) (a : Int) (k' : IntKind) (c : Int) (K : SV → JR) (D : JR) : iRem k a k' c K D = kO (binI E .rem T (.int k a) (.int k' c)) K := by
 show _ = kO (gd (decide (k = k') && !decide (c = 0)) (.int k (a.tmod c))) K
 unfold iRem
 simp only [eqK_eq, eqZ_eq, remZ_eq, ofNat0]
 cases decide (k = k') <;> cases decide (c = 0) <;> rfl
theorem iEql_eq (E : Env) (T : TypeId) (k : IntKind) (a : Int) (k' : IntKind) (c : Int) (K : SV → JR) (D : JR) : iEql k a k' c K D = kO (binI E .eql T (.int k a) (.int k' c)) K := by
 show _ = kO (gd (decide (k = k')) (.bool (decide (a = c)))) K
 unfold iEql
 simp only [eqK_eq, kB_eq, eqZ_eq, ofNat0]
 cases decide (k = k') <;> rfl
theorem iNeq_eq (E : Env) (T : TypeId) (k : IntKind) (a : Int) (k' : IntKind) (c : Int) (K : SV → JR) (D : JR) : iNeq k a k' c K D = kO (binI E .neq T (.int k a) (.int k' c)) K := by
 show _ = kO (gd (decide (k = k')) (.bool (!decide (a = c)))) K
 unfold iNeq
 simp only [eqK_eq, eqZ_eq, ofNat0]
 cases decide (k = k') <;> cases decide (a = c) <;> rfl
theorem iLss_eq (E : Env) (T : TypeId) (k : IntKind) (a : Int) (k' : IntKind) (c : Int) (K : SV → JR) (D : JR) : iLss k a k' c K D = kO (binI E .lss T (.int k a) (.int k' c)) K := by
 show _ = kO (gd (decide (k = k')) (.bool (decide (a < c)))) K
 unfold iLss
 simp only [eqK_eq, kB_eq, ltZ_eq, ofNat0]
 cases decide (k = k') <;> rfl
theorem iLeq_eq (E : Env) (T : TypeId) (k : IntKind) (a : Int) (k' : IntKind) (c : Int) (K : SV → JR) (D : JR) : iLeq k a k' c K D = kO (binI E .leq T (.int k a) (.int k' c)) K := by
 show _ = kO (gd (decide (k = k')) (.bool (decide (a ≤ c)))) K
 unfold iLeq
 simp only [eqK_eq, kB_eq, leZ_eq, ofNat0]
 cases decide (k = k') <;> rfl
theorem iGtr_eq (E : Env) (T : TypeId) (k : IntKind) (a : Int) (k' : IntKind) (c : Int) (K : SV → JR) (D : JR) : iGtr k a k' c K D = kO (binI E .gtr T (.int k a) (.int k' c)) K := by
 show _ = kO (gd (decide (k = k')) (.bool (decide (c < a)))) K
 unfold iGtr
 simp only [eqK_eq, kB_eq, ltZ_eq, ofNat0]
 cases decide (k = k') <;> rfl
theorem iGeq_eq (E : Env) (T : TypeId) (k : IntKind) (a : Int) (k' : IntKind) (c : Int) (K : SV → JR) (D : JR) : iGeq k a k' c K D = kO (binI E .geq T (.int k a) (.int k' c)) K := by
 show _ = kO (gd (decide (k = k')) (.bool (decide (c ≤ a)))) K
 unfold iGeq
 simp only [eqK_eq, kB_eq, leZ_eq, ofNat0]
 cases decide (k = k') <;> rfl
theorem binF_le (E : Env) (h : Tr IB) (n : Nat) (b : BinOp) (T : TypeId) (s t : SV) (K : SV → JR) : Le (binF E h n b T s t K) (kO (valBin E ⟨h, n⟩ b T s t) K) := by
 unfold binF
 simp only [slowB_eq, svInt_eq]
 split
 ·
  rename_i k a
  split
  ·
   rename_i k' c
   have hv : valBin E ⟨h, n⟩ b T (.int k a) (.int k' c) = binI E b T (.int k a) (.int k' c) := rfl
   rw [hv]
   refine Le.of_eq ?_
   cases b with
   | add => exact iAdd_eq E T k a k' c K .bad
   | sub => exact iSub_eq E T k a k' c K .bad
   | mul => exact iMul_eq E T k a k' c K .bad
   | quo => exact iQuo_eq E T k a k' c K .bad
   | rem => exact iRem_eq E T k a k' c K .bad
   | eql => exact iEql_eq E T k a k' c K .bad
   | neq => exact iNeq_eq E T k a k' c K .bad
   | lss => exact iLss_eq E T k a k' c K .bad
   | leq => exact iLeq_eq E T k a k' c K .bad
   | gtr => exact iGtr_eq E T k a k' c K .bad
   | geq => exact iGeq_eq E T k a k' c K .bad
   | _ => rfl
  ·
   exact Le.refl _
 ·
  exact Le.refl _
noncomputable def ibCells (b : IB) (K : TypeId → List SV → JR) : JR := IB.rec (motive := fun _ => (TypeId → List SV → JR) → JR) (fun T cs K => K T cs) (fun _ _ _ _ _ _ _ => .bad) (fun _ _ _ _ _ => .bad) b K
theorem ibCells_eq (b : IB) (K : TypeId → List SV → JR) : ibCells b K = match b with | .cells T cs => K T cs | _ => .bad := by cases b <;> rfl
noncomputable def ibHd (b : IB) (K : Nat → Nat → Nat → Nat → Nat → Bool → JR) : JR := IB.rec (motive := fun _ => (Nat → Nat → Nat → Nat → Nat → Bool → JR) → JR) (fun _ _ _ => .bad) (fun j o n sz c e K => K j o n sz c e) (fun _ _ _ _ _ => .bad) b K
theorem ibHd_eq (b : IB) (K : Nat → Nat → Nat → Nat → Nat → Bool → JR) : ibHd b K = match b with | .hd j o n sz c e => K j o n sz c e | _ => .bad := by cases b <;> rfl
noncomputable def asJ (ag : Bool) (n off : Nat) (cs : List SV) (K : SV → JR) : JR := bB ag (dropJ off cs fun r => takeJ n r fun xs => K (.agg xs)) (bB (Nat.beq n 1) (nthJ off cs K) .bad)
def asO (ag : Bool) (n off : Nat) (cs : List SV) : Option SV := match decide (off + n ≤ cs.length) with
 | true => match ag, (cs.drop off).take n with
  | true, xs => some (.agg xs)
  | false, [s] => some s
  | _, _ => none
 | false => none
theorem asJ_le (ag : Bool) (n off : Nat) (cs : List SV) (K : SV → JR) : Le (asJ ag n off cs K) (kO (asO ag n off cs) K) := by
 unfold asJ asO
 cases ag with
 | true =>
  rw [bB_t, dropJ_eq]
  by_cases h1 : off ≤ cs.length
  ·
   rw [decide_eq_true h1]
   show Le (takeJ n (cs.drop off) _) _
   rw [takeJ_eq]
   by_cases h2 : n ≤ (cs.drop off).length
   ·
    rw [decide_eq_true h2, decide_eq_true (show off + n ≤ cs.length by rw [List.length_drop] at h2; omega)]
    exact Le.refl _
   ·
    rw [decide_eq_false h2]; exact Le.bad _
  ·
   rw [decide_eq_false h1]; exact Le.bad _
 | false =>
  rw [bB_f]
  cases hn : Nat.beq n 1 with
  | false => exact Le.bad _
  | true =>
   have hn := Nat.eq_of_beq_eq_true hn
   subst hn
   rw [bB_t, nthJ_eq]
   by_cases h2 : off < cs.length
   ·
    rw [decide_eq_true (show off + 1 ≤ cs.length by omega), List.getElem?_eq_getElem h2]
    have : (cs.drop off).take 1 = [cs[off]] := by rw [List.drop_eq_getElem_cons h2]; rfl
    rw [this]
    exact Le.refl _
   ·
    rw [List.getElem?_eq_none (by omega)]; exact Le.bad _
noncomputable def ldJ (n : Nat) (ag : Bool) (h : Tr IB) (p : SV) (K : SV → JR) : JR := svPtr p (fun k off => getT h k fun b => ibCells b fun _ cs => asJ ag n off cs K)
 (fun k sz i off => getT h k fun b => ibHd b fun j o len sz' _ _ => bB (Nat.beq sz sz') (bB (Nat.ble (Nat.succ i) len) (bB (Nat.ble (Nat.add off n) sz) (getT h j fun b => ibCells b fun _ cs => fcN (Nat.add (Nat.add o (Nat.mul i sz)) off) fun q => asJ ag n q cs K) .bad) .bad) .bad) .bad
theorem asVal_as {P : Program} {T : TypeId} {ag : Bool} {n off : Nat} {cs : List SV} (ha : isAggB P T = some ag) : (match (match decide (off + n ≤ cs.length) with | true => some ((cs.drop off).take n) | false => none) with | some xs => asVal P T xs | none => none) = asO ag n off cs := by
 unfold asO
 cases decide (off + n ≤ cs.length) with
 | false => rfl
 | true =>
  show asVal P T _ = _
  unfold asVal
  rw [ha]
  generalize (cs.drop off).take n = xs
  cases ag with
  | true => rfl
  | false =>
   match xs with
   | [] => rfl
   | [s] => rfl
   | _ :: _ :: _ => rfl
theorem ldJ_le {P : Program} {T : TypeId} {n : Nat} {ag : Bool} (hn : sizeB P T = some n) (ha : isAggB P T = some ag) (h : Tr IB) (m : Nat) (p : SV) (K : SV → JR) : Le (ldJ n ag h p K) (kO (loadI P ⟨h, m⟩ T p) K) := by
 unfold ldJ loadI
 rw [svPtr_eq, hn]
 split
 ·
  rename_i k off
  rw [getT_eq]
  simp only [cellsI, Hp.get]
  cases h.get k with
  | none => exact Le.bad _
  | some b =>
   show Le (ibCells b _) _
   rw [ibCells_eq]
   cases b with
   | cells T0 cs =>
    exact (asJ_le ag n off cs K).trans (Le.of_eq (congrArg (fun o => kO o K) (asVal_as ha).symm))
   | _ => exact Le.bad _
 ·
  rename_i k sz i off
  rw [getT_eq]
  simp only [cellsI, Hp.get]
  cases h.get k with
  | none => exact Le.bad _
  | some b =>
   show Le (ibHd b _) _
   rw [ibHd_eq]
   cases b with
   | hd j o len sz' c e =>
    show Le (bB (Nat.beq sz sz') _ _) _
    cases h1 : Nat.beq sz sz' with
    | false => exact Le.bad _
    | true =>
     have h1 := Nat.eq_of_beq_eq_true h1
     rw [bB_t]
     cases h2 : Nat.ble (Nat.succ i) len with
     | false => exact Le.bad _
     | true =>
      rw [Nat.ble_eq] at h2
      rw [bB_t]
      cases h3 : Nat.ble (Nat.add off n) sz with
      | false => exact Le.bad _
      | true =>
       rw [Nat.ble_eq] at h3
       have h2' : i < len := h2
       have h3' : off + n ≤ sz := h3
       rw [bB_t, getT_eq]
       have hc : (decide (sz = sz') && decide (i < len) && decide (off + n ≤ sz)) = true := by rw [decide_eq_true h1, decide_eq_true h2', decide_eq_true h3']; rfl
       simp only [hc]
       cases h.get j with
       | none => exact Le.bad _
       | some b =>
        show Le (ibCells b _) _
        rw [ibCells_eq]
        cases b with
        | cells T0 cs =>
         show Le (fcN (o + i * sz + off) _) _
         rw [fcN_eq]
         exact (asJ_le ag n _ cs K).trans (Le.of_eq (congrArg (fun o => kO o K) (asVal_as ha).symm))
        | _ => exact Le.bad _
   | _ => exact Le.bad _
 ·
  exact Le.bad _
noncomputable def stJ (n : Nat) (h : Tr IB) (p x : SV) (K : Tr IB → JR) : JR := cellsJ x fun us => lenC n us (svPtr p (fun k off => getT h k fun b => ibCells b fun T0 cs => bB (Nat.ble (Nat.add off n) cs.length) (bB (Nat.blt k lim) (overJ off us cs fun cs' => setT 20 h k (some (.cells T0 cs')) K) .bad) .bad)
 (fun k sz i off => getT h k fun b => ibHd b fun j o len sz' _ _ => bB (Nat.beq sz sz') (bB (Nat.ble (Nat.succ i) len) (bB (Nat.ble (Nat.add off n) sz) (getT h j fun b => ibCells b fun T0 cs => fcN (Nat.add (Nat.add o (Nat.mul i sz)) off) fun q => bB (Nat.ble (Nat.add q n) cs.length) (bB (Nat.blt j lim) (overJ q us cs fun cs' => setT 20 h j (some (.cells T0 cs')) K) .bad) .bad) .bad) .bad) .bad) .bad)
theorem stJ_le {P : Program} {T : TypeId} {n : Nat} (hn : sizeB P T = some n) (h : Tr IB) (m : Nat) (p x : SV) (K : Tr IB → JR) : Le (stJ n h p x K) (kO (storeI P ⟨h, m⟩ T p x) fun h' => K h'.t) := by
 unfold stJ storeI
 rw [cellsJ_eq, hn]
 cases x.cells with
 | none => exact Le.bad _
 | some us =>
  show Le (lenC n us _) _
  rw [lenC_eq]
  simp only
  cases hc : decide (us.length = n) && us.all SV.isCell with
  | false => exact Le.bad _
  | true =>
   have hul : us.length = n := by simp only [Bool.and_eq_true, decide_eq_true_eq] at hc; exact hc.1
   simp only
   rw [svPtr_eq]
   split
   ·
    rename_i k off
    rw [getT_eq]
    simp only [Hp.get]
    cases h.get k with
    | none => exact Le.bad _
    | some b =>
     show Le (ibCells b _) _
     rw [ibCells_eq]
     cases b with
     | cells T0 cs =>
      simp only
      cases h1 : Nat.ble (Nat.add off n) cs.length with
      | false => exact Le.bad _
      | true =>
       rw [Nat.ble_eq] at h1
       have h1' : off + n ≤ cs.length := h1
       rw [bB_t]
       cases h2 : Nat.blt k lim with
       | false => exact Le.bad _
       | true =>
        have h2' : k < lim := by rw [Nat.blt_eq] at h2; exact h2
        rw [bB_t, overJ_eq _ _ _ _ (by rw [hul]; exact h1), setT_eq]
        simp only [decide_eq_true h1', decide_eq_true h2', Bool.and_self]
        rw [kO_some, Hp.put_eq, overS_eq]
        exact Le.refl _
     | _ => exact Le.bad _
   ·
    rename_i k sz i off
    rw [getT_eq]
    simp only [Hp.get]
    cases h.get k with
    | none => exact Le.bad _
    | some b =>
     show Le (ibHd b _) _
     rw [ibHd_eq]
     cases b with
     | hd j o len sz' c e =>
      simp only
      cases h1 : Nat.beq sz sz' with
      | false => exact Le.bad _
      | true =>
       have h1 := Nat.eq_of_beq_eq_true h1
       rw [bB_t]
       cases h2 : Nat.ble (Nat.succ i) len with
       | false => exact Le.bad _
       | true =>
        rw [Nat.ble_eq] at h2
        rw [bB_t]
        cases h3 : Nat.ble (Nat.add off n) sz with
        | false => exact Le.bad _
        | true =>
         rw [Nat.ble_eq] at h3
         have h2' : i < len := h2
         have h3' : off + n ≤ sz := h3
         rw [bB_t, getT_eq]
         cases h.get j with
         | none => exact Le.bad _
         | some b =>
          show Le (ibCells b _) _
          rw [ibCells_eq]
          cases b with
          | cells T0 cs =>
           show Le (fcN (o + i * sz + off) _) _
           rw [fcN_eq]
           cases h4 : Nat.ble (Nat.add (o + i * sz + off) n) cs.length with
           | false => exact Le.bad _
           | true =>
            rw [Nat.ble_eq] at h4
            have h4' : o + i * sz + off + n ≤ cs.length := h4
            rw [bB_t]
            cases h5 : Nat.blt j lim with
            | false => exact Le.bad _
            | true =>
             have h5' : j < lim := by rw [Nat.blt_eq] at h5; exact h5
             rw [bB_t, overJ_eq _ _ _ _ (by rw [hul]; exact h4'), setT_eq]
             simp only [decide_eq_true h1, decide_eq_true h2', decide_eq_true h3', decide_eq_true h4', decide_eq_true h5', Bool.and_self]
             rw [kO_some, Hp.put_eq, overS_eq]
             exact Le.refl _
          | _ => exact Le.bad _
     | _ => exact Le.bad _
   ·
    exact Le.bad _
theorem ovrJ_bad : ∀ (vs l : List SV) (K : List SV → JR), ¬ vs.length ≤ l.length → ovrJ vs l K = .bad
 | [], l, K, h => absurd (Nat.zero_le _) h
 | v :: vs, [], K, h => rfl
 | v :: vs, x :: l, K, h => ovrJ_bad vs l _ (by simpa using h)
theorem overJ_bad : ∀ (n : Nat) (vs l : List SV) (K : List SV → JR), ¬ n + vs.length ≤ l.length → overJ n vs l K = .bad
 | 0, vs, l, K, h => ovrJ_bad vs l K (by simpa using h)
 | n + 1, vs, [], K, h => rfl
 | n + 1, vs, x :: l, K, h => overJ_bad n vs l _ (by simp only [List.length_cons] at h; omega)
noncomputable def appJ (asq cs : List SV) (K : List SV → JR) : JR := List.rec (motive := fun _ => List SV → (List SV → JR) → JR) (fun cs K => K cs) (fun a _ ih cs K => ih cs fun r => K (a :: r)) asq cs K
theorem appJ_eq : ∀ (asq cs : List SV) (K : List SV → JR), appJ asq cs K = K (asq ++ cs)
 | [], cs, K => rfl
 | a :: r, cs, K => by
  show appJ r cs _ = _
  rw [appJ_eq r]; rfl
inductive BP where
 | mk (off sz : Nat) (x : XO)
noncomputable def bpJ (b : BP) (z : List SV) (L : List SV) (T : Tr SV) (K : List SV → JR) : JR := BP.rec (motive := fun _ => List SV → List SV → Tr SV → (List SV → JR) → JR) (fun off sz x z L T K => rdX x L T fun s => cellsJ s fun cs => lenC sz cs (overJ off cs z K)) b z L T K
noncomputable def bldJ (bs : List BP) (z : List SV) (L : List SV) (T : Tr SV) (K : List SV → JR) : JR := List.rec (motive := fun _ => List SV → List SV → Tr SV → (List SV → JR) → JR) (fun z _ _ K => K z) (fun b _ ih z L T K => bpJ b z L T fun z => ih z L T K) bs z L T K
noncomputable def bslJ (xs : List XO) (sz : Nat) (L : List SV) (T : Tr SV) (K : List SV → JR) : JR := List.rec (motive := fun _ => Nat → List SV → Tr SV → (List SV → JR) → JR) (fun _ _ _ K => K []) (fun x _ ih sz L T K => rdX x L T fun s => cellsJ s fun cs => lenC sz cs (ih sz L T fun r => appJ cs r K)) xs sz L T K
noncomputable def fadrJ (off : Nat) (p : SV) (K : SV → JR) : JR := svPtr p (fun k o => fcN (Nat.add o off) fun q => K (.own k q)) (fun k sz i o => fcN (Nat.add o off) fun q => K (.oel k sz i q)) .bad
noncomputable def natZ (z : Int) (K : Nat → JR) : JR := Int.rec (motive := fun _ => (Nat → JR) → JR) (fun n K => K n) (fun _ _ => .bad) z K
noncomputable def iasJ (sz : Nat) (h : Tr IB) (p i : SV) (K : SV → JR) : JR := svInt i (fun _ z => svOsl p (fun k => getT h k fun b => ibHd b fun _ _ len sz' _ _ => bB (Nat.beq sz sz') (natZ z fun m => bB (Nat.ble (Nat.succ m) len) (K (.oel k sz' m 0)) .bad) .bad) .bad) .bad
noncomputable def iaaJ (len sz : Nat) (p i : SV) (K : SV → JR) : JR := svInt i (fun _ z => natZ z fun m => bB (Nat.ble (Nat.succ m) len) (svPtr p (fun k o => fcN (Nat.add o (Nat.mul m sz)) fun q => K (.own k q)) (fun k sz' j o => fcN (Nat.add o (Nat.mul m sz)) fun q => K (.oel k sz' j q)) .bad) .bad) .bad
noncomputable def nilcJ (s : SV) (K : SV → JR) : JR := svPtr s (fun _ _ => K s) (fun _ _ _ _ => K s) (svClo s (fun _ _ => K s) .bad)
noncomputable def newJ (T : TypeId) (z : List SV) (h : Tr IB) (n : Nat) (K : SV → Tr IB → Nat → JR) : JR := bB (Nat.blt n lim) (setT 20 h n (some (.cells T z)) fun h' => fcN (Nat.succ n) fun n' => K (.own n 0) h' n') .bad
noncomputable def allB (l : List SV) : Bool := List.rec (motive := fun _ => Bool) true (fun s _ ih => Bool.rec (motive := fun _ => Bool → Bool) (fun _ => false) (fun b => b) (cellB s) ih) l
theorem allB_eq : ∀ l : List SV, allB l = l.all SV.isCell
 | [] => rfl
 | s :: r => by
  show Bool.rec (motive := fun _ => Bool → Bool) (fun _ => false) (fun b => b) (cellB s) (allB r) = _
  rw [allB_eq r, cellB_eq, List.all_cons]
  cases s.isCell <;> rfl
noncomputable def boxJ (T : TypeId) (x : SV) (h : Tr IB) (n : Nat) (K : SV → Tr IB → Nat → JR) : JR := cellsJ x fun cs => bB (allB cs) (newJ T cs h n K) .bad
noncomputable def lenJ (h : Tr IB) (n : Nat) (x : SV) (K : SV → JR) : JR := svOsl x (fun k => getT h k fun b => ibHd b fun _ _ len _ _ _ => K (.int .i64 (Int.ofNat len))) (kO (lenI ⟨h, n⟩ x) fun (m : Nat) => fcN m fun m => K (.int .i64 (Int.ofNat m)))
noncomputable def callK (r : JR) (K : SV → Tr IB → Nat → JR) : JR := JR.rec (motive := fun _ => (SV → Tr IB → Nat → JR) → JR) (fun _ => .bad) (fun _ s _ h n K => K s h n) r K
noncomputable def fcH (h : Hp) (K : Tr IB → Nat → JR) : JR := Hp.rec (motive := fun _ => (Tr IB → Nat → JR) → JR) (fun t nx K => fcN nx fun n => K t n) h K
theorem fcH_eq (h : Hp) (K : Tr IB → Nat → JR) : fcH h K = K h.t h.nx := by cases h; exact fcN_eq _ _
def opG (E : Env) (h : Hp) (ρ : Operand → Option SV) (op : Op) : Option (SV × Hp) := match valI E h ρ op with
 | some s => some (s, h)
 | none => effI E h ρ op
noncomputable def genJ (E : Env) (op : Op) (ρ : Operand → Option SV) (h : Tr IB) (n : Nat) (K : SV → Tr IB → Nat → JR) : JR := kO (opG E ⟨h, n⟩ ρ op) fun p => fc2 p.1 fun s => fcH p.2 fun t m => K s t m
inductive OI where
 | mv (x : XO)
 | bin (b : BinOp) (T : TypeId) (x y : XO)
 | nt (x : XO)
 | ld (n : Nat) (ag : Bool) (x : XO)
 | st (n : Nat) (p x : XO)
 | fadr (off : Nat) (x : XO)
 | ias (sz : Nat) (x i : XO)
 | iaa (len sz : Nat) (x i : XO)
 | call (f : XO) (xs : List XO)
 | ext (p : Pu) (x : XO)
 | pick (c x y : XO)
 | nilc (x : XO)
 | alloc (T : TypeId) (z : List SV)
 | box (T : TypeId) (x : XO)
 | len (x : XO)
 | bld (bs : List BP) (z : List SV)
 | bsl (e : TypeId) (m sz : Nat) (xs : List XO)
 | app (U e : TypeId) (sz by' : Nat) (x y : XO)
 | gen (op : Op) (rf : List SV → Tr SV → Operand → Option SV)
abbrev OX := Env → CallJ → List SV → Tr SV → Tr IB → Nat → (SV → Tr IB → Nat → JR) → JR
noncomputable def xMv (x : XO) : OX := fun _ _ L T h n K => rdX x L T fun s => K s h n
noncomputable def xBin (b : BinOp) (U : TypeId) (x y : XO) : OX := fun E _ L T h n K => rdX x L T fun s => rdX y L T fun t => binF E h n b U s t fun r => K r h n
noncomputable def xNt (x : XO) : OX := fun _ _ L T h n K => rdX x L T fun s => svBool s (fun b => bB b (K (.bool false) h n) (K (.bool true) h n)) .bad
noncomputable def xLd (m : Nat) (ag : Bool) (x : XO) : OX := fun _ _ L T h n K => rdX x L T fun p => ldJ m ag h p fun r => K r h n
noncomputable def xSt (m : Nat) (p x : XO) : OX := fun _ _ L T h n K => rdX p L T fun p => rdX x L T fun x => stJ m h p x fun h' => K .any h' n
noncomputable def xFadr (off : Nat) (x : XO) : OX := fun _ _ L T h n K => rdX x L T fun p => fadrJ off p fun r => K r h n
noncomputable def xIas (sz : Nat) (x i : XO) : OX := fun _ _ L T h n K => rdX x L T fun p => rdX i L T fun i => iasJ sz h p i fun r => K r h n
noncomputable def xIaa (len sz : Nat) (x i : XO) : OX := fun _ _ L T h n K => rdX x L T fun p => rdX i L T fun i => iaaJ len sz p i fun r => K r h n
noncomputable def xCall (f : XO) (xs : List XO) : OX := fun _ cj L T h n K => rdX f L T fun f => svClo f (fun fid cs => rdL xs L T fun asq => appJ asq cs fun asq => callK (cj fid asq h n) K) .bad
noncomputable def xExt (p : Pu) (x : XO) : OX := fun _ _ L T h n K => rdX x L T fun s => svTup s (fun vs => getU p vs fun r => K r h n) .bad
noncomputable def xPick (c x y : XO) : OX := fun _ _ L T h n K => rdX c L T fun c => svBool c (fun b => bB b (rdX x L T fun s => K s h n) (rdX y L T fun s => K s h n)) .bad
noncomputable def xNilc (x : XO) : OX := fun _ _ L T h n K => rdX x L T fun s => nilcJ s fun r => K r h n
noncomputable def xAlloc (U : TypeId) (z : List SV) : OX := fun _ _ _ _ h n K => newJ U z h n K
noncomputable def xBox (U : TypeId) (x : XO) : OX := fun _ _ L T h n K => rdX x L T fun s => boxJ U s h n K
noncomputable def xLen (x : XO) : OX := fun _ _ L T h n K => rdX x L T fun s => lenJ h n s fun r => K r h n
noncomputable def xBld (bs : List BP) (z : List SV) : OX := fun _ _ L T h n K => bldJ bs z L T fun cs => K (.agg cs) h n
noncomputable def newSJ (e : TypeId) (cs : List SV) (m sz c : Nat) (ex : Bool) (h : Tr IB) (n : Nat) (K : SV → Tr IB → Nat → JR) : JR := fcN (Nat.succ n) fun n1 => bB (Nat.blt n1 lim) (setT 20 h n (some (.cells e cs)) fun h => setT 20 h n1 (some (.hd n 0 m sz c ex)) fun h => fcN (Nat.succ n1) fun n2 => K (.osl n1) h n2) .bad
noncomputable def xBsl (e : TypeId) (m sz : Nat) (xs : List XO) : OX := fun _ _ L T h n K => bslJ xs sz L T fun cs => newSJ e cs m sz m true h n K
def isNilS (s : SV) : Bool := match s with
 | .con (.slice none 0 0) => true
 | _ => false
noncomputable def elJ (h : Tr IB) (j o n sz : Nat) (K : List SV → JR) : JR := nC n (K []) fun _ => getT h j fun b => ibCells b fun _ cs => dropJ o cs fun r => fcN (Nat.mul n sz) fun q => takeJ q r K
noncomputable def okA (q by' : Nat) : Bool := Bool.rec (motive := fun _ => Bool → Bool) (fun _ => false) (fun b => b) (Nat.ble q 9223372036854775807) (Nat.ble (Nat.mul q by') 140737488355328)
noncomputable def slowA (E : Env) (U : TypeId) (x y : SV) (h : Tr IB) (n : Nat) (K : SV → Tr IB → Nat → JR) : JR := kO (appI E.P ⟨h, n⟩ U x y) fun p => fc2 p.1 fun s => fcH p.2 fun t m => K s t m
noncomputable def appN (E : Env) (U e : TypeId) (sz by' m : Nat) (x y : SV) (ys : List SV) (h : Tr IB) (n : Nat) (K : SV → Tr IB → Nat → JR) : JR := svOsl x (fun k => getT h k fun b => ibHd b fun j o n0 sz' c ex => fcN (Nat.add n0 m) fun q => bB (Nat.ble q c) (slowA E U x y h n K) (bB (Nat.beq sz sz') (bB (okA q by') (bB (Nat.blt j lim) (elJ h j o n0 sz fun xs => appJ xs ys fun zs => bB ex (newSJ e zs q sz q false h n K) (getT h j fun b => ibCells b fun T0 _ => bB (Nat.beq T0 e) (setT 20 h j none fun h => newSJ e zs q sz q false h n K) .bad)) .bad) .bad) .bad)) (bB (isNilS x) (bB (okA m by') (newSJ e ys m sz m false h n K) .bad) .bad)
noncomputable def xApp (U e : TypeId) (sz by' : Nat) (x y : XO) : OX := fun E _ L T h n K => rdX x L T fun x => rdX y L T fun y => svOsl y (fun k => getT h k fun b => ibHd b fun j o m sz' _ _ => bB (Nat.beq sz sz') (nC m (slowA E U x y h n K) fun _ => elJ h j o m sz fun ys => appN E U e sz by' m x y ys h n K) .bad) (slowA E U x y h n K)
noncomputable def xGen (op : Op) (rf : List SV → Tr SV → Operand → Option SV) : OX := fun E _ L T h n K => genJ E op (rf L T) h n K
noncomputable def exO (o : OI) : OX := OI.rec (motive := fun _ => OX) xMv xBin xNt xLd xSt xFadr xIas xIaa xCall xExt xPick xNilc xAlloc xBox xLen xBld xBsl xApp xGen o
def notCall : Op → Bool
 | .call c => match c.callee with
  | .value _ => false
  | _ => true
 | _ => true
def compL (xo : Operand → Option XO) : List Operand → Option (List XO)
 | [] => some []
 | x :: r => match xo x, compL xo r with
  | some a, some asq => some (a :: asq)
  | _, _ => none
def compB (pl : Nat → Option (Nat × Nat)) (xo : Operand → Option XO) : List (Nat × Operand) → Option (List BP)
 | [] => some []
 | q :: r => match pl q.1, xo q.2, compB pl xo r with
  | some (off, sz), some x, some bs => some (.mk off sz x :: bs)
  | _, _, _ => none
def compO (P : Program) (xo : Operand → Option XO) (rf : List SV → Tr SV → Operand → Option SV) (op : Op) : Option OI := match op with
 | .move x => match xo x with
  | some a => some (.mv a)
  | none => none
 | .assign x => match xo x with
  | some a => some (.mv a)
  | none => none
 | .pick c x y => match xo c, xo x, xo y with
  | some a, some b, some d => some (.pick a b d)
  | _, _, _ => none
 | .nilCheck x => match xo x with
  | some a => some (.nilc a)
  | none => none
 | .load T x => match xo x, sizeB P T, isAggB P T with
  | some a, some n, some ag => some (.ld n ag a)
  | _, _, _ => none
 | .store T p x => match xo p, xo x, sizeB P T with
  | some a, some b, some n => some (.st n a b)
  | _, _, _ => none
 | .fieldAddr T x f => match xo x, fieldB P T f with
  | some a, some (off, _, n) => match Nat.beq n 0 with
   | false => some (.fadr off a)
   | true => none
  | _, _ => none
 | .indexAddr T x i => match xo x, xo i, P.underlying T with
  | some a, some b, some (.slice e) => match sizeB P e with
   | some sz => some (.ias sz a b)
   | none => none
  | some a, some b, some (.array len e) => match sizeB P e with
   | some sz => some (.iaa len sz a b)
   | none => none
  | _, _, _ => none
 | .binOp b T x y _ => match xo x, xo y with
  | some a, some c => some (.bin b T a c)
  | _, _ => none
 | .unOp .not _ x => match xo x with
  | some a => some (.nt a)
  | none => none
 | .extract x i => match xo x with
  | some a => some (.ext (puOf i) a)
  | none => none
 | .alloc T => match zeroSV P T with
  | some z => match z.all SV.isCell with
   | true => some (.alloc T z)
   | false => none
  | none => none
 | .box T x => match xo x with
  | some a => some (.box T a)
  | none => none
 | .call { callee := .value f, args := xs, argTypes := _ } => match xo f, compL xo xs.toList with
  | some a, some asq => some (.call a asq)
  | _, _ => none
 | .call { callee := .builtin .len, args := ⟨[x]⟩, argTypes := ⟨[T]⟩ } => match xo x, isSliceB P T with
  | some a, some _ => some (.len a)
  | _, _ => none
 | .call { callee := .builtin .append, args := ⟨[x, y]⟩, argTypes := ⟨[T, U]⟩ } => match decide (T = U), xo x, xo y, isSliceB P T with
  | false, some _, some _, some _ => some (.gen (.call { callee := .builtin .append, args := ⟨[x, y]⟩, argTypes := ⟨[T, U]⟩ }) rf)
  | true, some a, some b, some e => match P.info? e, zeroSV P e with
   | some inf, some z => match decide (z.length = inf.size) && decide (0 < inf.size) && z.all SV.isCell with
    | true => some (.app T e inf.size inf.bytes a b)
    | false => none
   | _, _ => none
  | _, _, _, _ => none
 | .build T parts => match zeroSV P T, placeB P T with
  | some z, some pl => match compB pl xo parts.toList with
   | some bs => some (.bld bs z)
   | none => none
  | _, _ => none
 | .buildSlice T n parts => match isSliceB P T with
  | some e => match sizeB P e, zeroSV P e, compL xo (parts.toList.map (·.2)) with
   | some sz, some z, some xs => match decide (parts.toList.map (·.1) = List.range n) && decide (0 < sz) && decide (n * sz ≤ 16777216) && decide (z.length = sz) && z.all SV.isCell with
    | true => some (.bsl e n sz xs)
    | false => none
   | _, _, _ => none
  | none => none
 | op => match notCall op with
  | true => some (.gen op rf)
  | false => none
section
variable {E : Env} {cj : CallJ} {L : List SV} {T : Tr SV} {h : Tr IB} {n : Nat} {xo : Operand → Option XO} {rf : List SV → Tr SV → Operand → Option SV} {ρ : Operand → Option SV}
def XoOK (xo : Operand → Option XO) (L : List SV) (T : Tr SV) (ρ : Operand → Option SV) : Prop := ∀ o x s, xo o = some x → vX x L T = some s → ρ o = some s
theorem rd_elim (hx : XoOK xo L T ρ) {o : Operand} {x : XO} (ho : xo o = some x) {F : SV → JR} {Z : JR} (hF : ∀ s, ρ o = some s → Le (F s) Z) : Le (rdX x L T F) Z := by
 rw [rdX_eq]
 cases hv : vX x L T with
 | none => exact Le.bad _
 | some s => exact hF s (hx o x s ho hv)
theorem rdL_elim (hx : XoOK xo L T ρ) : ∀ {os : List Operand} {xs : List XO} (_ : compL xo os = some xs) {F : List SV → JR} {Z : JR} (_ : ∀ s, os.mapM ρ = some s → Le (F s) Z), Le (rdL xs L T F) Z
 | [], xs, ho, F, Z, hF => by cases ho; exact hF [] rfl
 | o :: r, xs, ho, F, Z, hF => by
  simp only [compL] at ho
  split at ho
  ·
   rename_i a asq h1 h2
   cases ho
   show Le (rdX a L T _) _
   refine rd_elim hx h1 fun s hs => rdL_elim hx h2 fun l hl => hF (s :: l) ?_
   rw [List.mapM_cons, hs, hl]; rfl
  ·
   cases ho
theorem opI_val {op : Op} {call : CallF} {A : JR} {K : SV → Tr IB → Nat → JR} (hn : notCall op = true) (hA : Le A (kO (valI E ⟨h, n⟩ ρ op) fun s => K s h n)) : Le A (kO (opI E call ⟨h, n⟩ ρ op) fun p => K p.1 p.2.t p.2.nx) := by
 have : opI E call ⟨h, n⟩ ρ op = opG E ⟨h, n⟩ ρ op := by
  cases op with
  | call c =>
   unfold opI opG
   cases hc : c.callee with
   | value f => simp [notCall, hc] at hn
   | _ => simp only [hc]; rfl
  | _ => rfl
 rw [this]
 unfold opG
 cases hv : valI E ⟨h, n⟩ ρ op with
 | none => rw [hv] at hA; rcases hA with rfl | rfl <;> exact Le.bad _
 | some s => rw [hv] at hA; exact hA
theorem opI_gen {op : Op} {call : CallF} (hn : notCall op = true) : opI E call ⟨h, n⟩ ρ op = opG E ⟨h, n⟩ ρ op := by
 cases op with
 | call c =>
  unfold opI opG
  cases hc : c.callee with
  | value f => simp [notCall, hc] at hn
  | _ => simp only [hc]; rfl
 | _ => rfl
theorem natZ_eq (z : Int) (K : Nat → JR) : natZ z K = match z with | .ofNat m => K m | .negSucc _ => .bad := by cases z <;> rfl
theorem fadrJ_le {P : Program} {U : TypeId} {f off m : Nat} {V : TypeId} (hf : fieldB P U f = some (off, V, m)) (hm : m ≠ 0) (p : SV) (K : SV → JR) : Le (fadrJ off p K) (kO ((evFieldAddr P U f p).map (·.2)) K) := by
 unfold fadrJ evFieldAddr
 rw [svPtr_eq, hf]
 simp only [fcN_eq, Option.bind_eq_bind, Option.bind_some, if_neg hm]
 split
 ·
  exact Le.refl _
 ·
  exact Le.refl _
 ·
  exact Le.bad _
theorem iasJ_le {P : Program} {U e : TypeId} {sz : Nat} (hu : P.underlying U = some (.slice e)) (hs : sizeB P e = some sz) (p i : SV) (K : SV → JR) : Le (iasJ sz h p i K) (kO (indexAddrI P ⟨h, n⟩ U p i) K) := by
 unfold iasJ indexAddrI
 rw [svInt_eq]
 split
 ·
  rename_i k z
  rw [hu]
  simp only [svOsl_eq]
  split
  ·
   rename_i k
   rw [getT_eq]
   simp only [Hp.get]
   cases h.get k with
   | none => exact Le.bad _
   | some b =>
    show Le (ibHd b _) _
    rw [ibHd_eq]
    cases b with
    | hd j o len sz' c ex =>
     simp only [natZ_eq]
     cases h1 : Nat.beq sz sz' with
     | false => exact Le.bad _
     | true =>
      have h1 := Nat.eq_of_beq_eq_true h1
      rw [bB_t]
      cases z with
      | negSucc m => exact Le.bad _
      | ofNat m =>
       simp only
       cases h2 : Nat.ble (Nat.succ m) len with
       | false => exact Le.bad _
       | true =>
        rw [Nat.ble_eq] at h2
        rw [bB_t]
        have hc : (decide (sizeB P e = some sz') && decide (0 ≤ Int.ofNat m) && decide (Int.ofNat m < (len : Int))) = true := by
         rw [hs, h1, decide_eq_true rfl, decide_eq_true (show 0 ≤ Int.ofNat m from Int.natCast_nonneg m), decide_eq_true (show Int.ofNat m < (len : Int) from by simp only [Int.ofNat_eq_natCast]; omega)]; rfl
        rw [hc]
        exact Le.refl _
    | _ => exact Le.bad _
  ·
   exact Le.bad _
 ·
  exact Le.bad _
theorem iaaJ_le {P : Program} {U e : TypeId} {len sz : Nat} (hu : P.underlying U = some (.array len e)) (hs : sizeB P e = some sz) (p i : SV) (K : SV → JR) : Le (iaaJ len sz p i K) (kO (indexAddrI P ⟨h, n⟩ U p i) K) := by
 unfold iaaJ indexAddrI
 rw [svInt_eq]
 split
 ·
  rename_i k z
  rw [hu]
  simp only [natZ_eq, hs]
  cases z with
  | negSucc m => exact Le.bad _
  | ofNat m =>
   simp only
   cases h2 : Nat.ble (Nat.succ m) len with
   | false => exact Le.bad _
   | true =>
    rw [Nat.ble_eq] at h2
    rw [bB_t, svPtr_eq]
    have hc : (decide (0 ≤ Int.ofNat m) && decide (Int.ofNat m < (len : Int))) = true := by
     rw [decide_eq_true (show 0 ≤ Int.ofNat m from Int.natCast_nonneg m), decide_eq_true (show Int.ofNat m < (len : Int) from by simp only [Int.ofNat_eq_natCast]; omega)]; rfl
    rw [hc]
    simp only [fcN_eq]
    split
    ·
     exact Le.refl _
    ·
     exact Le.refl _
    ·
     exact Le.bad _
 ·
  exact Le.bad _
theorem nilcJ_le (s : SV) (K : SV → JR) : Le (nilcJ s K) (kO (match some s with | some (.own k o) => some (.own k o) | some (.oel k sz i o) => some (.oel k sz i o) | some (.clo f cs) => some (.clo f cs) | _ => none) K) := by
 unfold nilcJ
 rw [svPtr_eq, svClo_eq]
 cases s <;> first | exact Le.refl _ | exact Le.bad _
theorem lenJ_eq (x : SV) (K : SV → JR) : Le (lenJ h n x K) (kO ((lenI ⟨h, n⟩ x).map fun (m : Nat) => .int .i64 (m : Int)) K) := by
 unfold lenJ
 rw [svOsl_eq]
 simp only [fcN_eq]
 split
 ·
  rename_i k
  rw [getT_eq]
  simp only [lenI, Hp.get]
  cases h.get k with
  | none => exact Le.bad _
  | some b =>
   show Le (ibHd b _) _
   rw [ibHd_eq]
   cases b with
   | hd j o len sz c ex => exact Le.refl _
   | _ => exact Le.bad _
 ·
  cases lenI ⟨h, n⟩ x <;> exact Le.refl _
theorem newJ_eq {U : TypeId} {z : List SV} (K : SV → Tr IB → Nat → JR) : newJ U z h n K = kO (match decide (n < lim) with | true => some (SV.own n 0, (⟨h, n⟩ : Hp).new (.cells U z)) | false => none) fun p => K p.1 p.2.t p.2.nx := by
 unfold newJ
 simp only [setT_eq, fcN_eq]
 by_cases hl : n < lim
 ·
  have : Nat.blt n lim = true := by rw [Nat.blt_eq]; exact hl
  rw [this, decide_eq_true hl, bB_t]
  show _ = K (.own n 0) ((⟨h, n⟩ : Hp).new (.cells U z)).t ((⟨h, n⟩ : Hp).new (.cells U z)).nx
  rw [Hp.new_eq]
 ·
  have : Nat.blt n lim = false := by
   cases hb : Nat.blt n lim with
   | false => rfl
   | true => rw [Nat.blt_eq] at hb; exact absurd hb hl
  rw [this, decide_eq_false hl]; rfl
theorem valBin_opt (E : Env) (hh : Hp) (b : BinOp) (U : TypeId) (s t : SV) : valBin E hh b U s t = (match some s, some t with
  | some (.osl k), some (.con (.slice none 0 0)) => nilI E hh b U k
  | some s, some t => binI E b U s t
  | _, _ => none) := by
 unfold valBin
 split
 ·
  rfl
 ·
  rename_i hne
  split
  ·
   rename_i k h1 h2; cases h1; cases h2; exact (hne _ rfl rfl).elim
  ·
   rename_i h1 h2; cases h1; cases h2; rfl
  ·
   rename_i hh; exact (hh s t rfl rfl).elim
theorem bpJ_le (hx : XoOK xo L T ρ) {o : Operand} {x : XO} (ho : xo o = some x) (off sz : Nat) (z : List SV) {F : List SV → JR} {Z : JR} (hF : ∀ s cs, ρ o = some s → s.cells = some cs → cs.length = sz → off + sz ≤ z.length → Le (F (over z off cs)) Z) : Le (bpJ (.mk off sz x) z L T F) Z := by
 show Le (rdX x L T _) Z
 refine rd_elim hx ho fun s hs => ?_
 rw [cellsJ_eq]
 cases hc : s.cells with
 | none => exact Le.bad _
 | some cs =>
  show Le (lenC sz cs _) Z
  rw [lenC_eq]
  cases hb : decide (cs.length = sz) && cs.all SV.isCell with
  | false => exact Le.bad _
  | true =>
   simp only [Bool.and_eq_true, decide_eq_true_eq] at hb
   by_cases hl : off + cs.length ≤ z.length
   ·
    simp only [overJ_eq _ _ _ _ hl]
    exact hF s cs hs hc hb.1 (by rw [← hb.1]; exact hl)
   ·
    simp only [overJ_bad _ _ _ _ hl]
    exact Le.bad _
theorem bldJ_le (hx : XoOK xo L T ρ) {pl : Nat → Option (Nat × Nat)} : ∀ {ps : List (Nat × Operand)} {bs : List BP} (_ : compB pl xo ps = some bs) (z : List SV) (F : List SV → JR), Le (bldJ bs z L T F) (kO (match ps.mapM fun (p : Nat × Operand) => (ρ p.2).map fun s => (p.1, s) with | some l => fillSV pl z l | none => none) F)
 | [], bs, h, z, F => by cases h; exact Le.refl _
 | q :: r, bs, h, z, F => by
  simp only [compB] at h
  split at h
  rotate_left
  ·
   cases h
  rename_i off sz x bs' h1 h2 h3
  cases h
  show Le (bpJ (.mk off sz x) z L T _) _
  refine bpJ_le hx h2 off sz z fun s cs hs hcs hl ho => ?_
  refine (bldJ_le hx h3 (over z off cs) F).trans (Le.of_eq ?_)
  rw [List.mapM_cons, hs]
  simp only [Option.map_some, Option.bind_eq_bind, Option.bind_some, Option.pure_def]
  cases r.mapM fun (p : Nat × Operand) => (ρ p.2).map fun s => (p.1, s) with
  | none => rfl
  | some l =>
   simp only [Option.bind_some, fillSV, h1, hcs]
   rw [if_pos ⟨hl, ho⟩]
theorem newSJ_eq {e : TypeId} {cs : List SV} {m sz c : Nat} {ex : Bool} (K : SV → Tr IB → Nat → JR) : newSJ e cs m sz c ex h n K = kO (newS ⟨h, n⟩ e cs m sz c ex) fun p => K p.1 p.2.t p.2.nx := by
 unfold newSJ newS
 simp only [fcN_eq, setT_eq]
 by_cases hl : n + 1 < lim
 ·
  have : Nat.blt (Nat.succ n) lim = true := by rw [Nat.blt_eq]; exact hl
  rw [this, decide_eq_true hl, bB_t, kO_some]
  rw [Hp.new_eq, Hp.new_eq]
 ·
  have : Nat.blt (Nat.succ n) lim = false := by
   cases hb : Nat.blt (Nat.succ n) lim with
   | false => rfl
   | true => rw [Nat.blt_eq] at hb; exact absurd hb hl
  rw [this, decide_eq_false hl]; rfl
theorem bslJ_le (hx : XoOK xo L T ρ) (sz : Nat) : ∀ {ps : List (Nat × Operand)} {xs : List XO} (_ : compL xo (ps.map (·.2)) = some xs) {F : List SV → JR} {Z : JR} (_ : ∀ l, (ps.mapM fun (p : Nat × Operand) => (ρ p.2).bind fun s => s.cells.map fun cs => (p.1, cs)) = some l → l.map (·.1) = ps.map (·.1) → (l.all fun p => p.2.all SV.isCell && decide (p.2.length = sz)) = true → Le (F (cellsAll l)) Z), Le (bslJ xs sz L T F) Z
 | [], xs, h, F, Z, hF => by cases h; exact hF [] rfl rfl rfl
 | q :: r, xs, h, F, Z, hF => by
  simp only [List.map_cons, compL] at h
  split at h
  rotate_left
  ·
   cases h
  rename_i x xs' h1 h2
  cases h
  show Le (rdX x L T _) Z
  refine rd_elim hx h1 fun s hs => ?_
  rw [cellsJ_eq]
  cases hc : s.cells with
  | none => exact Le.bad _
  | some cs =>
   show Le (lenC sz cs _) Z
   rw [lenC_eq]
   cases hb : decide (cs.length = sz) && cs.all SV.isCell with
   | false => exact Le.bad _
   | true =>
    simp only [Bool.and_eq_true, decide_eq_true_eq] at hb
    simp only
    refine bslJ_le hx sz h2 fun l hl hm ha => ?_
    rw [appJ_eq]
    have := hF ((q.1, cs) :: l) (by rw [List.mapM_cons, hs]; simp [hc, hl]) (by simp [hm]) (by simp only [List.all_cons, ha, hb.1, hb.2, Bool.and_true, decide_true])
    simpa only [cellsAll, appS_eq] using this
theorem nC_eq (m : Nat) (z : JR) (s : Nat → JR) : nC m z s = match m with | 0 => z | k + 1 => s k := by cases m <;> rfl
theorem elJ_le {k j o m sz c : Nat} {ex : Bool} (hk : h.get k = some (.hd j o m sz c ex)) {F : List SV → JR} {Z : JR} (hF : ∀ l, elemsI ⟨h, n⟩ sz (.osl k) = some (m, l) → Le (F l) Z) : Le (elJ h j o m sz F) Z := by
 unfold elJ
 have hk' : (⟨h, n⟩ : Hp).get k = some (.hd j o m sz c ex) := hk
 cases m with
 | zero =>
  refine hF [] ?_
  simp only [elemsI, hk', decide_true]
 | succ m =>
  show Le (getT h j _) Z
  rw [getT_eq]
  cases hj : h.get j with
  | none => exact Le.bad _
  | some b =>
   show Le (ibCells b _) Z
   rw [ibCells_eq]
   cases b with
   | cells T0 cs =>
    simp only [dropJ_eq]
    by_cases h1 : o ≤ cs.length
    ·
     rw [decide_eq_true h1]
     simp only [kO_some, fcN_eq, takeJ_eq]
     have e1 : Nat.mul (m + 1) sz = (m + 1) * sz := rfl
     rw [e1]
     by_cases h2 : (m + 1) * sz ≤ (cs.drop o).length
     ·
      rw [decide_eq_true h2]
      refine hF _ ?_
      have hj' : (⟨h, n⟩ : Hp).get j = some (.cells T0 cs) := hj
      simp only [elemsI, hk', decide_true, hj']
      rw [decide_eq_true (show o + (m + 1) * sz ≤ cs.length by rw [List.length_drop] at h2; omega)]
     ·
      rw [decide_eq_false h2]; exact Le.bad _
    ·
     rw [decide_eq_false h1]; exact Le.bad _
   | _ => exact Le.bad _
theorem okA_eq {q by' : Nat} : okA q by' = (decide (q ≤ 9223372036854775807) && decide (q * by' ≤ 140737488355328)) := by
 have h1 : Nat.ble q 9223372036854775807 = decide (q ≤ 9223372036854775807) := by rw [Bool.eq_iff_iff, Nat.ble_eq, decide_eq_true_eq]
 have h2 : Nat.ble (Nat.mul q by') 140737488355328 = decide (q * by' ≤ 140737488355328) := by rw [Bool.eq_iff_iff, Nat.ble_eq, decide_eq_true_eq]; rfl
 unfold okA
 rw [h1, h2]
 cases decide (q ≤ 9223372036854775807) <;> rfl
theorem slowA_eq {U : TypeId} {x y : SV} {K : SV → Tr IB → Nat → JR} : slowA E U x y h n K = kO (appI E.P ⟨h, n⟩ U x y) fun p => K p.1 p.2.t p.2.nx := by
 unfold slowA; simp only [fc2_eq, fcH_eq]
theorem appN_le {U e : TypeId} {inf : TypeInfo} {z : List SV} (he : isSliceB E.P U = some e) (hinf : E.P.info? e = some inf) (hz : zeroSV E.P e = some z) (hcond : (decide (z.length = inf.size) && decide (0 < inf.size) && z.all SV.isCell) = true) {x y : SV} {m : Nat} {ys : List SV} (hy : elemsI ⟨h, n⟩ inf.size y = some (m + 1, ys)) (K : SV → Tr IB → Nat → JR) :
  Le (appN E U e inf.size inf.bytes (m + 1) x y ys h n K) (kO (appI E.P ⟨h, n⟩ U x y) fun p => K p.1 p.2.t p.2.nx) := by
 unfold appN
 rw [svOsl_eq]
 split
 ·
  rename_i k
  rw [getT_eq]
  cases hk : h.get k with
  | none => exact Le.bad _
  | some b =>
   show Le (ibHd b _) _
   rw [ibHd_eq]
   cases b with
   | hd j o n0 sz' c ex =>
    simp only [fcN_eq]
    have e0 : Nat.add n0 (m + 1) = n0 + (m + 1) := rfl
    rw [e0]
    cases h1 : Nat.ble (n0 + (m + 1)) c with
    | true => rw [bB_t, slowA_eq]; exact Le.refl _
    | false =>
     have h1' : ¬ n0 + (m + 1) ≤ c := fun e => by rw [← Nat.ble_eq] at e; rw [e] at h1; cases h1
     rw [bB_f]
     cases h2 : Nat.beq inf.size sz' with
     | false => exact Le.bad _
     | true =>
      have h2 := Nat.eq_of_beq_eq_true h2
      subst h2
      rw [bB_t, okA_eq]
      cases h3 : decide (n0 + (m + 1) ≤ 9223372036854775807) && decide ((n0 + (m + 1)) * inf.bytes ≤ 140737488355328) with
      | false => exact Le.bad _
      | true =>
       rw [bB_t]
       cases h4 : Nat.blt j lim with
       | false => exact Le.bad _
       | true =>
        have h4' : j < lim := by rw [Nat.blt_eq] at h4; exact h4
        rw [bB_t]
        refine elJ_le (n := n) hk fun xs hxs => ?_
        rw [appJ_eq]
        have hk' : (⟨h, n⟩ : Hp).get k = some (.hd j o n0 inf.size c ex) := hk
        by_cases hl : n + 1 < lim
        ·
         have hcc : (decide True && decide (n0 + (m + 1) ≤ 9223372036854775807) && decide ((n0 + (m + 1)) * inf.bytes ≤ 140737488355328) && decide (n + 1 < lim) && decide (j < lim)) = true := by
          rw [decide_eq_true h4', decide_eq_true hl]
          simp only [decide_true, Bool.true_and, Bool.and_true]
          exact h3
         unfold appI
         simp only [he, hinf, hz, hcond, hy, hk', hcc, decide_eq_false h1', hxs]
         cases ex with
         | true =>
          rw [bB_t, newSJ_eq, appS_eq]
          exact Le.refl _
         | false =>
          rw [bB_f, getT_eq]
          simp only [Hp.get]
          cases h.get j with
          | none => exact Le.bad _
          | some b =>
           show Le (ibCells b _) _
           rw [ibCells_eq]
           cases b with
           | cells T0 cs =>
            simp only
            cases h5 : Nat.beq T0 e with
            | false => exact Le.bad _
            | true =>
             have h5 := Nat.eq_of_beq_eq_true h5
             rw [bB_t, setT_eq, newSJ_eq, decide_eq_true h5, appS_eq]
             unfold newS
             have : decide ((⟨Tr.set 20 h j none, n⟩ : Hp).nx + 1 < lim) = true := decide_eq_true hl
             rw [this]
             simp only [kO_some]
             rw [Hp.put_eq]
             exact Le.refl _
           | _ => exact Le.bad _
        ·
         have hb : ∀ (t : Tr IB) (zs : List SV), newSJ e zs (n0 + (m + 1)) inf.size (n0 + (m + 1)) false t n K = .bad := by
          intro t zs
          rw [newSJ_eq]
          unfold newS
          have : decide ((⟨t, n⟩ : Hp).nx + 1 < lim) = false := decide_eq_false hl
          rw [this]; rfl
         cases ex with
         | true => rw [bB_t, hb]; exact Le.bad _
         | false =>
          rw [bB_f, getT_eq]
          cases h.get j with
          | none => exact Le.bad _
          | some b =>
           show Le (ibCells b _) _
           rw [ibCells_eq]
           cases b with
           | cells T0 cs =>
            simp only
            cases Nat.beq T0 e with
            | false => exact Le.bad _
            | true => rw [bB_t, setT_eq, hb]; exact Le.bad _
           | _ => exact Le.bad _
   | _ => exact Le.bad _
 ·
  cases hn : isNilS x with
  | false => exact Le.bad _
  | true =>
   rw [bB_t, okA_eq]
   cases h3 : decide (m + 1 ≤ 9223372036854775807) && decide ((m + 1) * inf.bytes ≤ 140737488355328) with
   | false => exact Le.bad _
   | true =>
    rw [bB_t, newSJ_eq]
    unfold isNilS at hn
    split at hn
    ·
     unfold appI
     simp only [he, hinf, hz, hcond, hy, h3]
     exact Le.refl _
    ·
     cases hn
theorem op_append {call : CallF} {a b : Operand} {x y : SV} {U : TypeId} (hxx : ρ a = some x) (hyy : ρ b = some y) : opI E call ⟨h, n⟩ ρ (.call { callee := .builtin .append, args := ⟨[a, b]⟩, argTypes := ⟨[U, U]⟩ }) = appI E.P ⟨h, n⟩ U x y := by
 have hv : valI E ⟨h, n⟩ ρ (.call { callee := .builtin .append, args := ⟨[a, b]⟩, argTypes := ⟨[U, U]⟩ }) = none := by
  unfold valI
  simp only [List.mapM_cons, List.mapM_nil, hxx, hyy]
  rfl
 rw [opI_gen rfl]
 unfold opG
 rw [hv]
 unfold effI
 simp only [decide_true, hxx, hyy]
theorem callJ_le (call : CallJ) (fid : FuncId) (asq : List SV) (K : SV → Tr IB → Nat → JR) : callK (call fid asq h n) K = kO (callO call fid asq ⟨h, n⟩) fun p => K p.1 p.2.t p.2.nx := by
 unfold callK callO
 simp only
 cases call fid asq h n <;> rfl
theorem compO_le {op : Op} {oi : OI} (hx : XoOK xo L T ρ) (hrf : rf L T = ρ) (hc : compO E.P xo rf op = some oi) (K : SV → Tr IB → Nat → JR) : Le (exO oi E cj L T h n K) (kO (opI E (callO cj) ⟨h, n⟩ ρ op) fun p => K p.1 p.2.t p.2.nx) := by
 have gen : ∀ op', notCall op' = true → Le (exO (.gen op' rf) E cj L T h n K) (kO (opI E (callO cj) ⟨h, n⟩ ρ op') fun p => K p.1 p.2.t p.2.nx) := by
  intro op' hn
  rw [opI_gen hn]
  show Le (genJ E op' (rf L T) h n K) _
  unfold genJ
  rw [hrf]
  simp only [fc2_eq, fcH_eq]
  exact Le.refl _
 have val : ∀ {A : JR}, notCall op = true → Le A (kO (valI E ⟨h, n⟩ ρ op) fun s => K s h n) → Le A (kO (opI E (callO cj) ⟨h, n⟩ ρ op) fun p => K p.1 p.2.t p.2.nx) := fun hn hA => opI_val hn hA
 unfold compO at hc
 split at hc
 ·
  -- move
  split at hc <;> cases hc
  rename_i ho
  exact val rfl (rd_elim hx ho fun s hs => by unfold valI; simp only [hs]; exact Le.refl _)
 ·
  -- assign
  split at hc <;> cases hc
  rename_i ho
  exact val rfl (rd_elim hx ho fun s hs => by unfold valI; simp only [hs]; exact Le.refl _)
 ·
  -- pick
  split at hc <;> cases hc
  rename_i h1 h2 h3
  refine val rfl (rd_elim hx h1 fun s hs => ?_)
  unfold valI
  simp only [hs, svBool_eq]
  split
  ·
   rename_i b
   cases b with
   | true => exact rd_elim hx h2 fun s hs => by simp only [hs]; exact Le.refl _
   | false => exact rd_elim hx h3 fun s hs => by simp only [hs]; exact Le.refl _
  ·
   exact Le.bad _
 ·
  -- nilCheck
  split at hc <;> cases hc
  rename_i ho
  exact val rfl (rd_elim hx ho fun s hs => by unfold valI; simp only [hs]; exact nilcJ_le s _)
 ·
  -- load
  split at hc <;> cases hc
  rename_i ho h2 h3
  exact val rfl (rd_elim hx ho fun s hs => by unfold valI; simp only [hs]; exact ldJ_le h2 h3 h n s _)
 ·
  -- store
  split at hc <;> cases hc
  rename_i h1 h2 h3
  refine rd_elim hx h1 fun p hp => rd_elim hx h2 fun x hxx => (stJ_le h3 h n p x _).trans (Le.of_eq ?_)
  unfold opI valI effI
  simp only [hp, hxx]
  cases hst : storeI E.P ⟨h, n⟩ _ p x with
  | none => rfl
  | some h' =>
   have : h'.nx = n := by
    unfold storeI at hst
    repeat' (split at hst)
    all_goals first
     | (cases hst; done)
     | (cases hst; exact Hp.put_nx _ _ _)
   show K .any h'.t n = K .any h'.t h'.nx
   rw [this]
 ·
  -- fieldAddr
  split at hc
  ·
   rename_i h1 h2
   split at hc
   ·
    rename_i hm
    cases hc
    refine val rfl (rd_elim hx h1 fun s hs => ?_)
    unfold valI; simp only [hs]
    exact fadrJ_le h2 (fun e => by subst e; cases hm) s _
   ·
    cases hc
  ·
   cases hc
 ·
  -- indexAddr
  split at hc
  ·
   rename_i h1 h2 h3
   split at hc
   ·
    rename_i h4
    cases hc
    refine val rfl (rd_elim hx h1 fun p hp => rd_elim hx h2 fun i hi => ?_)
    unfold valI; simp only [hp, hi]
    exact iasJ_le h3 h4 p i _
   ·
    cases hc
  ·
   rename_i h1 h2 h3
   split at hc
   ·
    rename_i h4
    cases hc
    refine val rfl (rd_elim hx h1 fun p hp => rd_elim hx h2 fun i hi => ?_)
    unfold valI; simp only [hp, hi]
    exact iaaJ_le h3 h4 p i _
   ·
    cases hc
  ·
   cases hc
 ·
  -- binOp
  split at hc <;> cases hc
  rename_i h1 h2
  refine val rfl (rd_elim hx h1 fun s hs => rd_elim hx h2 fun t ht => ?_)
  unfold valI; simp only [hs, ht]
  exact (binF_le E h n _ _ s t _).trans (Le.of_eq (congrArg (fun o => kO o _) (valBin_opt _ _ _ _ _ _)))
 ·
  -- not
  split at hc <;> cases hc
  rename_i h1
  refine val rfl (rd_elim hx h1 fun s hs => ?_)
  unfold valI; simp only [hs]
  show Le (svBool s _ _) _
  rw [svBool_eq]
  split
  ·
   rename_i b; cases b <;> exact Le.refl _
  ·
   exact Le.bad _
 ·
  -- extract
  split at hc <;> cases hc
  rename_i h1
  refine val rfl (rd_elim hx h1 fun s hs => ?_)
  unfold valI; simp only [hs]
  show Le (svTup s _ _) _
  rw [svTup_eq]
  split
  ·
   rw [getU_eq, puOf_n]; exact Le.refl _
  ·
   exact Le.bad _
 ·
  -- alloc
  split at hc
  ·
   rename_i z hz
   split at hc
   ·
    rename_i hall
    cases hc
    show Le (newJ _ z h n K) _
    rw [newJ_eq]
    refine Le.of_eq (congrArg (fun o => kO o _) ?_)
    unfold opI valI effI
    simp only [hz, hall, Bool.true_and]
    rfl
   ·
    cases hc
  ·
   cases hc
 ·
  -- box
  split at hc <;> cases hc
  rename_i h1
  refine rd_elim hx h1 fun s hs => ?_
  show Le (boxJ _ s h n K) _
  unfold boxJ
  rw [cellsJ_eq]
  unfold opI valI effI
  simp only [hs]
  cases s.cells with
  | none => exact Le.bad _
  | some cs =>
   show Le (bB (allB cs) _ _) _
   rw [allB_eq, newJ_eq]
   cases hall : cs.all SV.isCell with
   | false => exact Le.bad _
   | true => simp only [hall, Bool.true_and]; exact Le.refl _
 ·
  -- call
  split at hc <;> cases hc
  rename_i h1 h2
  refine rd_elim hx h1 fun s hs => ?_
  show Le (svClo s _ _) _
  rw [svClo_eq]
  split
  ·
   rename_i fid cs
   refine rdL_elim hx h2 fun asq has => ?_
   rw [appJ_eq, callJ_le]
   unfold opI callI
   simp only [hs, has]
   exact Le.refl _
  ·
   exact Le.bad _
 ·
  -- len
  split at hc <;> cases hc
  rename_i h1 h2
  refine val rfl (rd_elim hx h1 fun s hs => ?_)
  refine (lenJ_eq s _).trans (Le.of_eq (congrArg (fun o => kO o _) ?_))
  unfold valI
  simp only [List.mapM_cons, List.mapM_nil, hs]
  show _ = builtinI E.P ⟨h, n⟩ .len [_] [s]
  simp only [builtinI, h2]
 ·
  -- append
  split at hc
  ·
   cases hc
   exact gen _ rfl
  rotate_left
  ·
   cases hc
  rename_i a b e hTU h1 h2 he
  split at hc
  rotate_left
  ·
   cases hc
  rename_i inf z hinf hz
  split at hc
  rotate_left
  ·
   cases hc
  rename_i hcond
  cases hc
  have hTU := of_decide_eq_true hTU
  subst hTU
  refine rd_elim hx h1 fun x hxx => rd_elim hx h2 fun y hyy => ?_
  rw [op_append hxx hyy]
  show Le (svOsl y _ _) _
  rw [svOsl_eq, slowA_eq]
  split
  ·
   rename_i k
   rw [getT_eq]
   cases hk : h.get k with
   | none => exact Le.bad _
   | some b =>
    show Le (ibHd b _) _
    rw [ibHd_eq]
    cases b with
    | hd j o m sz' c ex =>
     simp only
     cases hsz : Nat.beq inf.size sz' with
     | false => exact Le.bad _
     | true =>
      have hsz := Nat.eq_of_beq_eq_true hsz
      subst hsz
      rw [bB_t, nC_eq]
      cases m with
      | zero => exact Le.refl _
      | succ m => exact elJ_le (n := n) hk fun ys hys => appN_le he hinf hz hcond hys K
    | _ => exact Le.bad _
  ·
   exact Le.refl _
 ·
  -- build
  split at hc
  ·
   rename_i z pl hz hpl
   split at hc <;> cases hc
   rename_i bs hbs
   refine val rfl ((bldJ_le hx hbs z _).trans (Le.of_eq ?_))
   unfold valI
   simp only [evBuild, hz, hpl]
   generalize (List.mapM (fun (p : Nat × Operand) => (ρ p.2).map fun s => (p.1, s)) _) = o
   cases o with
   | none => rfl
   | some l => simp only [Option.bind_eq_bind, Option.bind_some]; cases fillSV pl z l <;> rfl
  ·
   cases hc
 ·
  -- buildSlice
  split at hc
  rotate_left
  ·
   cases hc
  rename_i e he
  split at hc
  rotate_left
  ·
   cases hc
  rename_i sz z xs hsz hz hxs
  split at hc
  rotate_left
  ·
   cases hc
  rename_i hcond
  cases hc
  refine bslJ_le hx sz hxs fun l hl hm ha => ?_
  rw [newSJ_eq]
  refine Le.of_eq (congrArg (fun o => kO o _) ?_)
  unfold opI valI effI buildSI
  simp only [he, hsz, hz, hl, hm, ha, hcond, Bool.and_true]
 ·
  split at hc
  ·
   rename_i hn
   cases hc
   exact gen _ hn
  ·
   cases hc
end
inductive XG where
 | no
 | yes (x : XO) (p : Bool)
inductive XD where
 | non
 | loc
 | kep (p : Pb)
inductive RI where
 | fin
 | op (g : XG) (o : OI) (d : XD) (nx : RI)
abbrev RX := List SV → Tr SV → Tr IB → Nat → JR
noncomputable def finJ (d : XD) (s : SV) (L : List SV) (T : Tr SV) (h : Tr IB) (n : Nat) (K : RX) : JR := XD.rec (motive := fun _ => SV → List SV → Tr SV → Tr IB → Nat → RX → JR) (fun _ L T h n K => K L T h n) (fun s L T h n K => K (s :: L) T h n) (fun p s L T h n K => setB p T s fun T => K L T h n) d s L T h n K
noncomputable def eqB (b p : Bool) : Bool := Bool.rec (motive := fun _ => Bool → Bool) (fun p => Bool.rec (motive := fun _ => Bool) true false p) (fun p => p) b p
theorem eqB_eq (b p : Bool) : eqB b p = (b == p) := by cases b <;> cases p <;> rfl
noncomputable def opJ (o : OI) (d : XD) (E : Env) (cj : CallJ) (L : List SV) (T : Tr SV) (h : Tr IB) (n : Nat) (K : RX) : JR := exO o E cj L T h n fun s h n => finJ d s L T h n K
noncomputable def gdNo (o : OI) (d : XD) (E : Env) (cj : CallJ) (L : List SV) (T : Tr SV) (h : Tr IB) (n : Nat) (K : RX) : JR := opJ o d E cj L T h n K
noncomputable def conJ (s : SV) (Z : JR) : JR := match s with
 | .con v => bB (noB v) Z .bad
 | _ => .bad
noncomputable def gdYes (x : XO) (p : Bool) (o : OI) (d : XD) (E : Env) (cj : CallJ) (L : List SV) (T : Tr SV) (h : Tr IB) (n : Nat) (K : RX) : JR := rdX x L T fun b => svBool b (fun b => bB (eqB b p) (opJ o d E cj L T h n K) (finJ d (.con undef) L T h n K)) (conJ b (finJ d (.con undef) L T h n K))
noncomputable def gdJ (g : XG) : OI → XD → Env → CallJ → List SV → Tr SV → Tr IB → Nat → RX → JR := XG.rec (motive := fun _ => OI → XD → Env → CallJ → List SV → Tr SV → Tr IB → Nat → RX → JR) gdNo gdYes g
noncomputable def exR (r : RI) : Env → CallJ → RX := RI.rec (motive := fun _ => Env → CallJ → RX) (fun _ _ _ T h n => .ok .n .any T h n) (fun g o d _ ih E cj L T h n => gdJ g o d E cj L T h n (ih E cj)) r
theorem exR_op (g : XG) (o : OI) (d : XD) (r : RI) (E : Env) (cj : CallJ) (L : List SV) (T : Tr SV) (h : Tr IB) (n : Nat) : exR (.op g o d r) E cj L T h n = gdJ g o d E cj L T h n (exR r E cj) := rfl
def posN (t : Nat) : List Nat → Option Nat
 | [] => none
 | e :: r => match Nat.beq e t with
  | true => some 0
  | false => match posN t r with
   | some i => some (i + 1)
   | none => none
def kepX (K t0 : Nat) : Option Pb := match rkI K t0 with
 | t => match Nat.beq (pbOf 14 t).n t && Nat.ble (pbOf 14 t).len 14 with
  | true => some (pbOf 14 t)
  | false => none
def xoC (K : Nat) (N : List Nat) : Operand → Option XO
 | .tmp t => match kbit K t with
  | true => match kepX K t with
   | some p => some (.kep p)
   | none => none
  | false => match posN t N with
   | some i => some (.loc (puOf i))
   | none => none
 | .const v => some (.lit (ofVal v))
 | .global _ => none
 | .func f => some (.lit (.clo f []))
def rfC (K : Nat) (N : List Nat) (L : List SV) (T : Tr SV) : Operand → Option SV := opdI K ⟨N.zip L, T⟩
theorem posN_spec : ∀ {N : List Nat} {t i : Nat} {L : List SV} {s : SV}, posN t N = some i → L[i]? = some s → lookL t (N.zip L) = some s
 | [], t, i, L, s, h, _ => by cases h
 | e :: r, t, i, L, s, h, hs => by
  simp only [posN] at h
  cases L with
  | nil => simp at hs
  | cons x L =>
   rw [List.zip_cons_cons]
   simp only [lookL]
   split at h
   ·
    rename_i hb
    cases h
    rw [hb]
    simpa using hs
   ·
    rename_i hb
    rw [hb]
    split at h
    ·
     rename_i j hj
     cases h
     exact posN_spec hj (by simpa using hs)
    ·
     cases h
theorem kepX_spec {K t : Nat} {p : Pb} (h : kepX K t = some p) : p.n = rkI K t ∧ p.len ≤ 14 := by
 unfold kepX at h
 simp only at h
 split at h
 ·
  rename_i hc
  cases h
  rw [Bool.and_eq_true] at hc
  exact ⟨Nat.eq_of_beq_eq_true hc.1, by have := hc.2; rwa [Nat.ble_eq] at this⟩
 ·
  cases h
theorem xoC_ok {K : Nat} {N : List Nat} {L : List SV} {T : Tr SV} : XoOK (xoC K N) L T (opdI K ⟨N.zip L, T⟩) := by
 intro o x s ho hv
 cases o with
 | tmp t =>
  simp only [xoC] at ho
  simp only [opdI, RE.get]
  split at ho
  ·
   rename_i hk
   split at ho
   ·
    rename_i p hp
    cases ho
    rw [hk]
    have := (kepX_spec hp).1
    simp only [vX] at hv
    rw [this] at hv
    exact hv
   ·
    cases ho
  ·
   rename_i hk
   split at ho
   ·
    rename_i i hi
    cases ho
    rw [hk]
    simp only [vX, puOf_n] at hv
    exact posN_spec hi hv
   ·
    cases ho
 | const v => cases ho; exact hv
 | global n => cases ho
 | func f => cases ho; exact hv
def compD (K nt : Nat) (N : List Nat) : Option Nat → Option (XD × List Nat)
 | none => some (.non, N)
 | some d => match decide (d < nt) && decide (d < 16000) with
  | true => match kbit K d with
   | true => match kepX K d with
    | some p => some (.kep p, N)
    | none => none
   | false => some (.loc, d :: N)
  | false => none
def compG (K : Nat) (N : List Nat) (ops : Array Oper) : Option (Nat × Bool) → Option XG
 | none => some .no
 | some (j, p) => match (ops[j]?).bind (·.dst) with
  | some g => match xoC K N (.tmp g) with
   | some x => some (.yes x p)
   | none => none
  | none => none
def compS (P : Program) (K nt : Nat) (ops : Array Oper) : List Oper → List Nat → Option RI
 | [], _ => some .fin
 | o :: l, N => match compO P (xoC K N) (rfC K N) o.op, compD K nt N o.dst, compG K N ops o.guard with
  | some oi, some (d, N'), some g => match compS P K nt ops l N' with
   | some r => some (.op g oi d r)
   | none => none
  | _, _, _ => none
def toR (o : Option FS) : JR := kO o fun st => .ok .n .any st.ρ.t st.h.t st.h.nx
section
variable {E : Env} {cj : CallJ} {K nt lm : Nat} {ops : Array Oper}
theorem finJ_le {d : XD} {N N' : List Nat} {dst : Option Nat} (hd : compD K nt N dst = some (d, N')) {s : SV} {L : List SV} {T : Tr SV} {h : Tr IB} {n : Nat} {R : RX} {F : RE → JR} (hR : ∀ L' T', Le (R L' T' h n) (F ⟨N'.zip L', T'⟩)) : Le (finJ d s L T h n R) (kO (putD K nt dst s ⟨N.zip L, T⟩) F) := by
 unfold compD at hd
 split at hd
 ·
  cases hd; exact hR L T
 ·
  rename_i d0
  split at hd
  ·
   rename_i hc
   unfold putD
   simp only [hc, RE.put]
   split at hd
   ·
    rename_i hk
    rw [hk]
    split at hd
    ·
     rename_i p hp
     cases hd
     obtain ⟨h1, h2⟩ := kepX_spec hp
     show Le (setB p T s fun T => R L T h n) _
     rw [setB_eq p 14 T s _ h2, h1, kO_some, Tr.setK_eq]
     exact hR L _
    ·
     cases hd
   ·
    rename_i hk
    rw [hk]
    cases hd
    exact hR (s :: L) T
  ·
   cases hd
theorem compS_le : ∀ (l : List Oper) (N : List Nat) (r : RI), compS E.P K nt ops l N = some r → ∀ (L : List SV) (T : Tr SV) (h : Tr IB) (n : Nat), Le (exR r E cj L T h n) (toR (seqI E (callO cj) K nt ops l ⟨⟨N.zip L, T⟩, ⟨h, n⟩⟩)) := by
 intro l
 induction l with
 | nil => intro N r hr L T h n; cases hr; exact Le.refl _
 | cons o l ih =>
  intro N r hr L T h n
  simp only [compS] at hr
  split at hr
  rotate_left
  ·
   cases hr
  rename_i oi d N' g ho hd hg
  split at hr
  rotate_left
  ·
   cases hr
  rename_i r' hr'
  cases hr
  rw [exR_op]
  simp only [seqI, stepI]
  have rest : ∀ (s : SV) (h : Tr IB) (n : Nat), Le (finJ d s L T h n (exR r' E cj)) (toR (match (match putD K nt o.dst s ⟨N.zip L, T⟩ with | some ρ' => some (⟨ρ', ⟨h, n⟩⟩ : FS) | none => none) with | some st' => seqI E (callO cj) K nt ops l st' | none => none)) := by
   intro s h n
   refine (finJ_le (F := fun ρ => toR (seqI E (callO cj) K nt ops l ⟨ρ, ⟨h, n⟩⟩)) hd fun L' T' => ih N' r' hr' L' T' h n).trans (Le.of_eq ?_)
   cases putD K nt o.dst s ⟨N.zip L, T⟩ <;> rfl
  have run : Le (opJ oi d E cj L T h n (exR r' E cj)) (toR (match (match opI E (callO cj) ⟨h, n⟩ (opdI K ⟨N.zip L, T⟩) o.op with | some (s, h') => (fc2 s fun s => (match putD K nt o.dst s ⟨N.zip L, T⟩ with | some ρ' => some (⟨ρ', h'⟩ : FS) | none => none)) | none => none) with | some st' => seqI E (callO cj) K nt ops l st' | none => none)) := by
   unfold opJ
   refine (compO_le xoC_ok rfl ho _).trans ?_
   cases opI E (callO cj) ⟨h, n⟩ (opdI K ⟨N.zip L, T⟩) o.op with
   | none => exact Le.refl _
   | some p =>
    obtain ⟨s, h'⟩ := p
    simp only [fc2_eq]
    exact rest s h'.t h'.nx
  unfold compG at hg
  split at hg
  ·
   rename_i hgo
   cases hg
   show Le (opJ oi d E cj L T h n (exR r' E cj)) _
   have hw : wantI K ops ⟨N.zip L, T⟩ o = some true := by unfold wantI; rw [hgo]
   rw [hw]
   exact run
  ·
   rename_i j p hgo
   split at hg
   rotate_left
   ·
    cases hg
   rename_i gt hgt
   split at hg
   rotate_left
   ·
    cases hg
   rename_i x hx
   cases hg
   show Le (rdX x L T _) _
   refine rd_elim xoC_ok hx fun s hs => ?_
   rw [svBool_eq]
   split
   ·
    rename_i b
    have hw : wantI K ops ⟨N.zip L, T⟩ o = some (b == p) := by
     unfold wantI
     rw [hgo]
     simp only [hgt]
     have : (⟨N.zip L, T⟩ : RE).get K gt = some (.bool b) := hs
     rw [this]
    rw [hw, eqB_eq]
    cases (b == p) with
    | true => rw [bB_t]; exact run
    | false => rw [bB_f]; exact rest _ h n
   ·
    cases s with
    | con v =>
     show Le (bB (noB v) _ _) _
     cases hv : noB v with
     | false => exact Le.bad _
     | true =>
      have hw : wantI K ops ⟨N.zip L, T⟩ o = some false := by
       unfold wantI
       rw [hgo]
       simp only [hgt]
       have : (⟨N.zip L, T⟩ : RE).get K gt = some (.con v) := hs
       rw [this]
       simp only [hv]
      rw [hw, bB_t]
      exact rest _ h n
    | _ => exact Le.bad _
end
abbrev Pe := List (Nat × IB)
def layP : Pe → Tr IB → Tr IB
 | [], t => t
 | e :: r, t => layP r (Tr.set 20 t e.1 (some e.2))
noncomputable def layJ (p : Pe) (t : Tr IB) (K : Tr IB → JR) : JR := List.rec (motive := fun _ => Tr IB → (Tr IB → JR) → JR) (fun t K => K t) (fun e _ ih t K => setT 20 t e.1 (some e.2) fun t => ih t K) p t K
theorem layJ_eq : ∀ (p : Pe) (t : Tr IB) (K : Tr IB → JR), layJ p t K = K (layP p t)
 | [], t, K => rfl
 | e :: r, t, K => by
  show setT 20 t e.1 (some e.2) (fun t => layJ r t K) = _
  rw [setT_eq, layJ_eq r]; rfl
theorem layP_append : ∀ (p q : Pe) (t : Tr IB), layP (p ++ q) t = layP q (layP p t)
 | [], q, t => rfl
 | e :: r, q, t => layP_append r q _
theorem merge_lf {α : Type} (t : Tr α) : Tr.merge .lf t = t := by cases t <;> rfl
theorem merge_set {α : Type} : ∀ (f : Nat) (a b : Tr α) (n : Nat) (v : α), (Tr.set f a n (some v)).merge b = Tr.set f (a.merge b) n (some v)
 | 0, a, b, n, v => rfl
 | f + 1, a, b, 0, v => by
  simp only [Tr.set]
  cases a <;> cases b <;> simp [Tr.merge, Tr.left, Tr.right, merge_lf]
 | f + 1, a, b, k + 1, v => by
  simp only [Tr.set]
  cases hb : Nat.beq (k % 2) 0 with
  | true =>
   simp only
   cases a with
   | lf =>
    cases b with
    | lf => simp [Tr.merge, Tr.left, Tr.right, Tr.mid]
    | nd l' x' r' =>
     have := merge_set f .lf l' (k / 2) v
     rw [merge_lf] at this
     simp [Tr.merge, Tr.left, Tr.right, Tr.mid, this, merge_lf]
   | nd l x r =>
    cases b with
    | lf => simp [Tr.merge, Tr.left, Tr.right, Tr.mid]
    | nd l' x' r' => simp [Tr.merge, Tr.left, Tr.right, Tr.mid, merge_set f l l' (k / 2) v]
  | false =>
   simp only
   cases a with
   | lf =>
    cases b with
    | lf => simp [Tr.merge, Tr.left, Tr.right, Tr.mid]
    | nd l' x' r' =>
     have := merge_set f .lf r' (k / 2) v
     rw [merge_lf] at this
     simp [Tr.merge, Tr.left, Tr.right, Tr.mid, this, merge_lf]
   | nd l x r =>
    cases b with
    | lf => simp [Tr.merge, Tr.left, Tr.right, Tr.mid]
    | nd l' x' r' => simp [Tr.merge, Tr.left, Tr.right, Tr.mid, merge_set f r r' (k / 2) v]
def ent1 (k : Nat) (h : Hp) : Pe := match h.get k with
 | some b => [(k, b)]
 | none => []
theorem mk1_merge (k : Nat) (h m : Hp) (t : Tr IB) : (mk1 k h m).t.merge t = layP (ent1 k h) (m.t.merge t) := by
 unfold mk1 ent1
 split
 ·
  rename_i b hb
  rw [hb, Hp.put_eq]
  exact merge_set 20 m.t t k b
 ·
  rename_i hb
  rw [hb]; rfl
theorem mk2_merge (rid : Nat) (h : Hp) (t : Tr IB) : (mk2 rid h).t.merge t = layP (ent1 rid h ++ ent1 (rid + 1) h) t := by
 unfold mk2
 rw [mk1_merge, mk1_merge, layP_append]
 exact congrArg (fun t => layP _ (layP _ t)) (merge_lf t)
def PendOK (pd : List Hp) (p : Pe) : Prop := ∀ G : Hp, mergeI pd G = ⟨layP p G.t, G.nx⟩
theorem PendOK.nil : PendOK [] [] := fun G => rfl
theorem PendOK.cons {pd : List Hp} {p q : Pe} {m : Hp} (h : PendOK pd p) (hm : ∀ t, m.t.merge t = layP q t) : PendOK (m :: pd) (q ++ p) := fun G => by
 show mergeI pd ⟨m.t.merge G.t, G.nx⟩ = _
 rw [h, hm, layP_append]
inductive DO where
 | hard (o : OI)
 | soft (o : OI)
 | softw (o : OI) (w : Nat) (op : Op) (rf : List SV → Tr SV → Operand → Option SV)
 | alloc (T : TypeId) (z : List SV) (rid : Nat)
 | box (T : TypeId) (x : XO) (rid : Nat)
 | bsl (e : TypeId) (m sz : Nat) (xs : List XO) (rid : Nat)
 | mk (op : Op) (rf : List SV → Tr SV → Operand → Option SV) (rid w : Nat)
abbrev KD := SV → Tr IB → Nat → Pe → List Hp → JR
abbrev DX := Env → CallJ → Nat → List SV → Tr SV → Tr IB → Nat → Pe → List Hp → KD → JR
noncomputable def dHard (o : OI) : DX := fun E cj _ L T h n p hs K => layJ p h fun h => exO o E cj L T h n fun s h n => K s h n [] (⟨h, n⟩ :: hs)
noncomputable def dSoft (o : OI) : DX := fun E cj _ L T h n p hs K => exO o E cj L T h n fun s _ _ => K s h n p hs
noncomputable def dSoftw (o : OI) (w : Nat) (op : Op) (rf : List SV → Tr SV → Operand → Option SV) : DX := fun E cj _ L T h n p hs K => exO o E cj L T h n fun s _ _ => bB (winI E (rf L T) op s none ((hs.drop 1).take w)) (K s h n p hs) .bad
noncomputable def newP (U : TypeId) (z : List SV) (r : Nat) (h : Tr IB) (n : Nat) (p : Pe) (hs : List Hp) (K : KD) : JR := bB (Nat.blt (Nat.succ r) lim) (K (.own r 0) h n ((r, .cells U z) :: p) hs) .bad
noncomputable def dAlloc (U : TypeId) (z : List SV) (rid : Nat) : DX := fun _ _ n0 _ _ h n p hs K => fcN (Nat.add n0 rid) fun r => newP U z r h n p hs K
noncomputable def dBox (U : TypeId) (x : XO) (rid : Nat) : DX := fun _ _ n0 L T h n p hs K => rdX x L T fun s => cellsJ s fun cs => bB (allB cs) (fcN (Nat.add n0 rid) fun r => newP U cs r h n p hs K) .bad
noncomputable def dBsl (e : TypeId) (m sz : Nat) (xs : List XO) (rid : Nat) : DX := fun _ _ n0 L T h n p hs K => bslJ xs sz L T fun cs => fcN (Nat.add n0 rid) fun r => fcN (Nat.succ r) fun r1 => bB (Nat.blt r1 lim) (K (.osl r1) h n ((r, .cells e cs) :: (r1, .hd r 0 m sz m true) :: p) hs) .bad
def hdOf (ρ : Operand → Option SV) (op : Op) (G : Hp) : Option (Nat × IB) := match (sliO op).bind ρ with
 | some (.osl k) => (G.get k).map fun b => (k, b)
 | _ => none
def mkG (E : Env) (G : Hp) (rid : Nat) (ρ : Operand → Option SV) (op : Op) (w : Nat) (hs : List Hp) : Option (SV × Pe) := match softI E G rid ρ op with
 | some (s, some m) => match winI E ρ op s (hdOf ρ op G) ((hs.drop 1).take w) with
  | true => some (s, ent1 rid m ++ ent1 (rid + 1) m)
  | false => none
 | _ => none
noncomputable def fcP (q p : Pe) (K : Pe → JR) : JR := List.rec (motive := fun _ => Pe → (Pe → JR) → JR) (fun p K => K p) (fun e _ ih p K => ih p fun r => K (e :: r)) q p K
theorem fcP_eq : ∀ (q p : Pe) (K : Pe → JR), fcP q p K = K (q ++ p)
 | [], p, K => rfl
 | e :: r, p, K => by
  show fcP r p _ = _
  rw [fcP_eq r]; rfl
noncomputable def dMk (op : Op) (rf : List SV → Tr SV → Operand → Option SV) (rid w : Nat) : DX := fun E _ n0 L T h n p hs K => fcN (Nat.add n0 rid) fun r => kO (mkG E ⟨h, n⟩ r (rf L T) op w hs) fun q => fc2 q.1 fun s => fcP q.2 p fun p => K s h n p hs
noncomputable def exD (o : DO) : DX := DO.rec (motive := fun _ => DX) dHard dSoft dSoftw dAlloc dBox dBsl dMk o
abbrev SX := Tr IB → Nat → Pe → List Hp → (Tr IB → Nat → Pe → List Hp → JR) → JR
noncomputable def skHard : SX := fun h n p hs K => layJ p h fun h => K h n [] (⟨h, n⟩ :: hs)
noncomputable def skSoft : SX := fun h n p hs K => K h n p hs
noncomputable def skD (o : DO) : SX := DO.rec (motive := fun _ => SX) (fun _ => skHard) (fun _ => skSoft) (fun _ _ _ _ => skSoft) (fun _ _ _ => skSoft) (fun _ _ _ => skSoft) (fun _ _ _ _ _ => skSoft) (fun _ _ _ _ => skSoft) o
theorem newP_eq {U : TypeId} {z : List SV} {r : Nat} {h : Tr IB} {n : Nat} {p : Pe} {hs : List Hp} {K : KD} : newP U z r h n p hs K = match decide (r + 1 < lim) with | true => K (.own r 0) h n ((r, .cells U z) :: p) hs | false => .bad := by
 unfold newP
 by_cases hl : r + 1 < lim
 ·
  have : Nat.blt (Nat.succ r) lim = true := by rw [Nat.blt_eq]; exact hl
  rw [this, decide_eq_true hl]; rfl
 ·
  have : Nat.blt (Nat.succ r) lim = false := by
   cases hb : Nat.blt (Nat.succ r) lim with
   | false => rfl
   | true => rw [Nat.blt_eq] at hb; exact absurd hb hl
  rw [this, decide_eq_false hl]; rfl
inductive DI where
 | fin
 | op (g : XG) (o : DO) (d : XD) (nx : DI)
abbrev DR0 := List SV → Tr SV → Tr IB → Nat → Pe → List Hp → JR
noncomputable def opD (o : DO) (d : XD) (E : Env) (cj : CallJ) (n0 : Nat) (L : List SV) (T : Tr SV) (h : Tr IB) (n : Nat) (p : Pe) (hs : List Hp) (K : DR0) : JR := exD o E cj n0 L T h n p hs fun s h n p hs => finJ d s L T h n fun L T h n => K L T h n p hs
noncomputable def ydD (x : XO) (b0 : Bool) (o : DO) (d : XD) (E : Env) (cj : CallJ) (n0 : Nat) (L : List SV) (T : Tr SV) (h : Tr IB) (n : Nat) (p : Pe) (hs : List Hp) (K : DR0) : JR := rdX x L T fun b => svBool b (fun b => bB (eqB b b0) (opD o d E cj n0 L T h n p hs K) (skD o h n p hs fun h n p hs => finJ d (.con undef) L T h n fun L T h n => K L T h n p hs)) (conJ b (skD o h n p hs fun h n p hs => finJ d (.con undef) L T h n fun L T h n => K L T h n p hs))
noncomputable def gdD (g : XG) : DO → XD → Env → CallJ → Nat → List SV → Tr SV → Tr IB → Nat → Pe → List Hp → DR0 → JR := XG.rec (motive := fun _ => DO → XD → Env → CallJ → Nat → List SV → Tr SV → Tr IB → Nat → Pe → List Hp → DR0 → JR) opD ydD g
noncomputable def exDI (r : DI) : Env → CallJ → Nat → DR0 := DI.rec (motive := fun _ => Env → CallJ → Nat → DR0) (fun _ _ _ _ T h n p _ => layJ p h fun h => .ok .n .any T h n) (fun g o d _ ih E cj n0 L T h n p hs => gdD g o d E cj n0 L T h n p hs (ih E cj n0)) r
def xoR (K : Nat) (N ns : List Nat) : Operand → Option XO
 | .tmp t => match ns.contains t with
  | true => xoC K N (.tmp t)
  | false => none
 | o => xoC K N o
def rfR (K : Nat) (N ns : List Nat) (L : List SV) (T : Tr SV) : Operand → Option SV := opdR K ns ⟨N.zip L, T⟩
theorem xoR_ok {K : Nat} {N ns : List Nat} {L : List SV} {T : Tr SV} : XoOK (xoR K N ns) L T (opdR K ns ⟨N.zip L, T⟩) := by
 intro o x s ho hv
 cases o with
 | tmp t =>
  simp only [xoR] at ho
  split at ho
  ·
   rename_i hc
   have := xoC_ok (.tmp t) x s ho hv
   simp only [opdR, hc]
   exact this
  ·
   cases ho
 | const v => exact xoC_ok (K := K) (N := N) (L := L) (T := T) (.const v) x s ho hv
 | global n => cases ho
 | func f => exact xoC_ok (K := K) (N := N) (L := L) (T := T) (.func f) x s ho hv
def winN (rms : List Nat) (k : Nat) (hk : List Nat) (i : Nat) (op : Op) : Nat := match memO op || !(readO op || (sliO op).isSome) with
 | true => 0
 | false => k - loD (rms.getD i 0) hk
def compDO (P : Program) (K : Nat) (N : List Nat) (ops : Array Oper) (rms : List Nat) (k : Nat) (hk : List Nat) (i : Nat) (o : Oper) : Option DO := match hardO o.op with
 | true => match compO P (xoR K N (namesI ops o)) (rfR K N (namesI ops o)) o.op with
  | some oi => some (.hard oi)
  | none => none
 | false => match mkO o.op with
  | true => match o.op with
   | .alloc T => match zeroSV P T with
    | some z => match z.all SV.isCell with
     | true => some (.alloc T z (ridI ops i))
     | false => none
    | none => none
   | .box T x => match xoR K N (namesI ops o) x with
    | some a => some (.box T a (ridI ops i))
    | none => none
   | .buildSlice T n parts => match isSliceB P T with
    | some e => match sizeB P e, zeroSV P e, compL (xoR K N (namesI ops o)) (parts.toList.map (·.2)) with
     | some sz, some z, some xs => match decide (parts.toList.map (·.1) = List.range n) && decide (0 < sz) && decide (n * sz ≤ 16777216) && decide (z.length = sz) && z.all SV.isCell with
      | true => some (.bsl e n sz xs (ridI ops i))
      | false => none
     | _, _, _ => none
    | none => none
   | op => some (.mk op (rfR K N (namesI ops o)) (ridI ops i) (winN rms k hk i op))
  | false => match compO P (xoR K N (namesI ops o)) (rfR K N (namesI ops o)) o.op with
   | some oi => match winN rms k hk i o.op with
    | 0 => some (.soft oi)
    | w + 1 => some (.softw oi (w + 1) o.op (rfR K N (namesI ops o)))
   | none => none
def compDI (P : Program) (K nt : Nat) (ops : Array Oper) (rms : List Nat) : List Nat → List Nat → Nat → List Nat → Option DI
 | [], _, _, _ => some .fin
 | i :: l, N, k, hk => match ops[i]? with
  | none => none
  | some o => match compDO P K N ops rms k hk i o, compD K nt N o.dst, compG K N ops o.guard with
   | some oi, some (d, N'), some g => match (match hardO o.op with
     | true => compDI P K nt ops rms l N' (k + 1) (i :: hk)
     | false => compDI P K nt ops rms l N' k hk) with
    | some r => some (.op g oi d r)
    | none => none
   | _, _, _ => none
def compDr (P : Program) (K nt : Nat) (ops : Array Oper) : Option DI := match drawI ops with
 | true => compDI P K nt ops (reachM ops) (schedI ops) [] 0 []
 | false => none
noncomputable def runDr (r : DI) (rs : Nat) (E : Env) (cj : CallJ) (T : Tr SV) (h : Tr IB) (n : Nat) : JR := fcN (Nat.add n rs) fun m => exDI r E cj n [] T h m [] [⟨h, m⟩]
section
variable {E : Env} {cj : CallJ} {K nt : Nat} {ops : Array Oper} {rms : List Nat} {n0 : Nat}
theorem soft_eff {op : Op} {h : Hp} {ρ : Operand → Option SV} (h1 : hardO op = false) (h2 : mkO op = false) : effI E h ρ op = none := by
 cases op with
 | call c =>
  unfold effI
  split <;> first
   | rfl
   | (rename_i hc; cases hc; done)
   | (rename_i hc; cases hc; simp [hardO] at h1)
 | _ => first | rfl | (simp [mkO, memO, sliO] at h2; done) | (simp [hardO] at h1; done)
theorem soft_notCall {op : Op} (h1 : hardO op = false) : notCall op = true := by
 cases op with
 | call c =>
  obtain ⟨callee, args, tys⟩ := c
  cases callee with
  | value f => simp [hardO] at h1
  | _ => rfl
 | _ => rfl
theorem ent1_congr {k : Nat} {h h' : Hp} (e : h.get k = h'.get k) : ent1 k h = ent1 k h' := by unfold ent1; rw [e]
theorem soft_made {G : Hp} {rid : Nat} {ρ : Operand → Option SV} {op : Op} {s : SV} {m : Hp} (hs : softI E G rid ρ op = some (s, some m)) (t : Tr IB) : m.t.merge t = layP (ent1 rid m ++ ent1 (rid + 1) m) t := by
 unfold softI at hs
 split at hs
 ·
  split at hs
  rotate_left
  ·
   cases hs
  split at hs
  rotate_left
  ·
   cases hs
  rename_i s1 h' heff
  split at hs
  rotate_left
  ·
   cases hs
  rename_i hc
  simp only [Bool.and_eq_true, decide_eq_true_eq] at hc
  simp only [Option.some.injEq, Prod.mk.injEq] at hs
  obtain ⟨_, rfl⟩ := hs
  rw [ent1_congr (k := rid) (h' := h') (by rw [mk2_get hc.2, if_neg (by omega), if_pos rfl]), ent1_congr (k := rid + 1) (h' := h') (by rw [mk2_get hc.2, if_pos rfl])]
  exact mk2_merge rid h' t
 ·
  split at hs
  ·
   simp at hs
  ·
   cases hs
structure DRel (K : Nat) (N : List Nat) (k : Nat) (hk : List Nat) (st : DS) (L : List SV) (T : Tr SV) (h : Tr IB) (n : Nat) (p : Pe) (hs : List Hp) : Prop where
 ρ : st.ρ = ⟨N.zip L, T⟩
 G : st.G = ⟨h, n⟩
 hist : st.hist = hs
 pend : PendOK st.pend p
 k : st.k = k
 hk : st.hk = hk
theorem win_of {w : Nat} {G : Hp} {ρ : Operand → Option SV} {i : Nat} {k : Nat} {hk : List Nat} {op : Op} {s : SV} {hist : List Hp} (hw : winN rms k hk i op = w) (h : winI E ρ op s (match (sliO op).bind ρ with
   | some (.osl k) => (G.get k).map fun b => (k, b)
   | _ => none) ((hist.drop 1).take w) = true) : (match memO op || !(readO op || (sliO op).isSome) with
     | true => true
     | false => winI E ρ op s (match (sliO op).bind ρ with
       | some (.osl k) => (G.get k).map fun b => (k, b)
       | _ => none) ((hist.drop 1).take (k - loD (rms.getD i 0) hk))) = true := by
 unfold winN at hw
 split at hw
 ·
  rfl
 ·
  rw [hw]
  exact h
theorem stepD_le {i : Nat} {o : Oper} (ho : ops[i]? = some o) {N N' : List Nat} {k : Nat} {hk : List Nat} {oi : DO} {d : XD} {g : XG} (hc : compDO E.P K N ops rms k hk i o = some oi) (hd : compD K nt N o.dst = some (d, N')) (hg : compG K N ops o.guard = some g) {st : DS} {L : List SV} {T : Tr SV} {h : Tr IB} {n : Nat} {p : Pe} {hs : List Hp}
  (hr : DRel K N k hk st L T h n p hs) {R : DR0} {F : DS → JR} (hR : ∀ st' L' T' h' n' p' hs', DRel K N' (match hardO o.op with | true => k + 1 | false => k) (match hardO o.op with | true => i :: hk | false => hk) st' L' T' h' n' p' hs' → Le (R L' T' h' n' p' hs') (F st')) :
  Le (gdD g oi d E cj n0 L T h n p hs R) (kO (stepD E (callO cj) K nt ops rms n0 i st) fun q => F q.2) := by
 obtain ⟨ρ, G, hist, pend, k', hk'⟩ := st
 obtain ⟨rfl, rfl, rfl, hpd, rfl, rfl⟩ := hr
 simp only at hpd
 have hF : mergeI pend ⟨h, n⟩ = ⟨layP p h, n⟩ := hpd _
 have put : ∀ (s : SV) (h' : Tr IB) (n' : Nat) (p' : Pe) (hs' : List Hp) (f : RE → DS), (∀ L' T', DRel K N' (match hardO o.op with | true => k' + 1 | false => k') (match hardO o.op with | true => i :: hk' | false => hk') (f ⟨N'.zip L', T'⟩) L' T' h' n' p' hs') →
   Le (finJ d s L T h' n' fun L T h n => R L T h n p' hs') (kO (putD K nt o.dst s ⟨N.zip L, T⟩) fun ρ' => F (f ρ')) := fun s h' n' p' hs' f hf =>
  finJ_le hd fun L' T' => hR _ L' T' h' n' p' hs' (hf L' T')
 have run : wantI K ops ⟨N.zip L, T⟩ o = some true → Le (opD oi d E cj n0 L T h n p hist R) (kO (stepD E (callO cj) K nt ops rms n0 i ⟨⟨N.zip L, T⟩, ⟨h, n⟩, hist, pend, k', hk'⟩) fun q => F q.2) := by
  intro hw
  unfold stepD
  simp only [ho, hw]
  unfold compDO at hc
  split at hc
  ·
   rename_i hh
   simp only [hh] at put ⊢
   split at hc <;> cases hc
   rename_i oi' hoi
   show Le (layJ p h _) _
   rw [layJ_eq, hF]
   refine (compO_le xoR_ok rfl hoi _).trans ?_
   cases opI E (callO cj) ⟨layP p h, n⟩ (opdR K (namesI ops o) ⟨N.zip L, T⟩) o.op with
   | none => exact Le.refl _
   | some q =>
    obtain ⟨s, G'⟩ := q
    simp only [fc2_eq, kO_some]
    refine (put s G'.t G'.nx [] (⟨G'.t, G'.nx⟩ :: hist) (fun ρ' => ⟨ρ', G', G' :: hist, [], k' + 1, i :: hk'⟩) (fun L' T' => ⟨rfl, rfl, rfl, PendOK.nil, rfl, rfl⟩)).trans (Le.of_eq ?_)
    cases putD K nt o.dst s ⟨N.zip L, T⟩ <;> rfl
  ·
   rename_i hh
   simp only [hh] at put ⊢
   have made : ∀ {s : SV} {q : Pe} {m : Hp}, softI E ⟨h, n⟩ (n0 + ridI ops i) (opdR K (namesI ops o) ⟨N.zip L, T⟩) o.op = some (s, some m) → (∀ t, m.t.merge t = layP q t) →
     winI E (opdR K (namesI ops o) ⟨N.zip L, T⟩) o.op s (match (sliO o.op).bind (opdR K (namesI ops o) ⟨N.zip L, T⟩) with
       | some (.osl k) => ((⟨h, n⟩ : Hp).get k).map fun b => (k, b)
       | _ => none) ((hist.drop 1).take (winN rms k' hk' i o.op)) = true →
     Le (finJ d s L T h n fun L T h n => R L T h n (q ++ p) hist) (kO (match softI E ⟨h, n⟩ (n0 + ridI ops i) (opdR K (namesI ops o) ⟨N.zip L, T⟩) o.op with
   | some (s, made) => fc2 s fun s => match putD K nt o.dst s ⟨N.zip L, T⟩, (match memO o.op || !(readO o.op || (sliO o.op).isSome) with
     | true => true
     | false => winI E (opdR K (namesI ops o) ⟨N.zip L, T⟩) o.op s (match (sliO o.op).bind (opdR K (namesI ops o) ⟨N.zip L, T⟩) with
       | some (.osl k) => ((⟨h, n⟩ : Hp).get k).map fun b => (k, b)
       | _ => none) ((hist.drop 1).take (k' - loD (rms.getD i 0) hk'))) with
    | some ρ', true => some ((⟨i, false, true, k', ⟨N.zip L, T⟩, ⟨h, n⟩, s, made, ⟨h, n⟩, ⟨h, n⟩, loD (rms.getD i 0) hk'⟩ : Rec), (⟨ρ', ⟨h, n⟩, hist, (match made with | some h => h :: pend | none => pend), k', hk'⟩ : DS))
    | _, _ => none
   | none => none) fun q => F q.2) := by
    intro s q m hs hm hwi
    rw [hs]
    simp only [fc2_eq]
    rw [win_of rfl hwi]
    refine (put s h n (q ++ p) hist (fun ρ' => ⟨ρ', ⟨h, n⟩, hist, m :: pend, k', hk'⟩) (fun L' T' => ⟨rfl, rfl, rfl, PendOK.cons hpd hm, rfl, rfl⟩)).trans (Le.of_eq ?_)
    cases putD K nt o.dst s ⟨N.zip L, T⟩ <;> rfl
   split at hc
   ·
    rename_i hmk
    have newm : ∀ (U : TypeId) (z : List SV) (r : Nat), r + 1 < lim → mk2 r ((⟨.lf, r⟩ : Hp).new (.cells U z)) = (⟨.lf, r⟩ : Hp).put r (some (.cells U z)) := by
     intro U z r hl
     have g1 : ((⟨.lf, r⟩ : Hp).new (.cells U z)).get r = some (.cells U z) := by rw [Hp.get_new' (n := r) rfl (by omega), if_pos rfl]
     have g2 : ((⟨.lf, r⟩ : Hp).new (.cells U z)).get (r + 1) = none := by rw [Hp.get_new' (n := r) rfl (by omega), if_neg (by omega)]; rfl
     unfold mk2 mk1
     rw [g1, g2]
    have newe : ∀ (U : TypeId) (z : List SV) (r : Nat) (t : Tr IB), ((⟨.lf, r⟩ : Hp).put r (some (.cells U z))).t.merge t = layP [(r, .cells U z)] t := by
     intro U z r t
     rw [Hp.put_eq]
     exact (merge_set 20 .lf t r (.cells U z)).trans (by rw [merge_lf]; rfl)
    split at hc
    ·
     -- alloc
     rename_i U hop
     split at hc
     ·
      rename_i z hz
      split at hc
      ·
       rename_i hall
       cases hc
       show Le (fcN (n0 + ridI ops i) _) _
       rw [fcN_eq, newP_eq]
       cases hl : decide (n0 + ridI ops i + 1 < lim) with
       | false => exact Le.bad _
       | true =>
        have hl' := of_decide_eq_true hl
        refine made (q := [(n0 + ridI ops i, .cells U z)]) (m := (⟨.lf, n0 + ridI ops i⟩ : Hp).put (n0 + ridI ops i) (some (.cells U z))) ?_ (newe U z _) ?_
        ·
         rw [hop]
         simp only [softI, memO, Bool.true_or, baseI, sliO, effI, hz, hall, Bool.true_and]
         rw [decide_eq_true (show n0 + ridI ops i < lim by omega)]
         simp only
         rw [Hp.new_nx, decide_eq_true (show n0 + ridI ops i + 1 ≤ n0 + ridI ops i + 2 by omega), hl]
         simp only [Bool.true_and]
         rw [newm U z _ hl']
        ·
         rw [hop]; rfl
      ·
       cases hc
     ·
      cases hc
    ·
     -- box
     rename_i U x hop
     split at hc <;> cases hc
     rename_i a ha
     refine rd_elim xoR_ok ha fun s hs => ?_
     rw [cellsJ_eq]
     cases hcs : s.cells with
     | none => exact Le.bad _
     | some cs =>
      show Le (bB (allB cs) _ _) _
      rw [allB_eq]
      cases hall : cs.all SV.isCell with
      | false => exact Le.bad _
      | true =>
       rw [bB_t]
       show Le (fcN (n0 + ridI ops i) _) _
       rw [fcN_eq, newP_eq]
       cases hl : decide (n0 + ridI ops i + 1 < lim) with
       | false => exact Le.bad _
       | true =>
        have hl' := of_decide_eq_true hl
        refine made (q := [(n0 + ridI ops i, .cells U cs)]) (m := (⟨.lf, n0 + ridI ops i⟩ : Hp).put (n0 + ridI ops i) (some (.cells U cs))) ?_ (newe U cs _) ?_
        ·
         rw [hop]
         simp only [softI, memO, Bool.true_or, baseI, sliO, effI, hs, hcs, hall, Bool.true_and]
         rw [decide_eq_true (show n0 + ridI ops i < lim by omega)]
         simp only
         rw [Hp.new_nx, decide_eq_true (show n0 + ridI ops i + 1 ≤ n0 + ridI ops i + 2 by omega), hl]
         simp only [Bool.true_and]
         rw [newm U cs _ hl']
        ·
         rw [hop]; rfl
    ·
     -- buildSlice
     rename_i U m parts hop
     split at hc
     rotate_left
     ·
      cases hc
     rename_i e he
     split at hc
     rotate_left
     ·
      cases hc
     rename_i sz z xs hsz hz hxs
     split at hc
     rotate_left
     ·
      cases hc
     rename_i hcond
     cases hc
     show Le (bslJ xs sz L T _) _
     refine bslJ_le xoR_ok sz hxs fun l hl hm ha => ?_
     rw [fcN_eq, fcN_eq]
     have e1 : Nat.succ (Nat.add n0 (ridI ops i)) = n0 + ridI ops i + 1 := rfl
     have e2 : Nat.add n0 (ridI ops i) = n0 + ridI ops i := rfl
     rw [e1, e2]
     generalize hr0 : n0 + ridI ops i = r at made ⊢
     cases hb : Nat.blt (r + 1) lim with
     | false => exact Le.bad _
     | true =>
      have hl' : r + 1 < lim := by rw [Nat.blt_eq] at hb; exact hb
      rw [bB_t]
      have heff : effI E ⟨.lf, r⟩ (opdR K (namesI ops o) ⟨N.zip L, T⟩) (.buildSlice U m parts) = some (.osl (r + 1), ((⟨.lf, r⟩ : Hp).new (.cells e (cellsAll l))).new (.hd r 0 m sz m true)) := by
       have hdl : decide (r + 1 < lim) = true := decide_eq_true hl'
       simp only [effI, buildSI, he, hsz, hz, hl, hm, ha, hcond, Bool.and_true, newS, hdl]
      have hnx : (((⟨.lf, r⟩ : Hp).new (.cells e (cellsAll l))).new (.hd r 0 m sz m true)).nx = r + 2 := by rw [Hp.new_nx, Hp.new_nx]
      have hnx1 : ((⟨.lf, r⟩ : Hp).new (.cells e (cellsAll l))).nx = r + 1 := by rw [Hp.new_nx]
      have g2 : (((⟨.lf, r⟩ : Hp).new (.cells e (cellsAll l))).new (.hd r 0 m sz m true)).get (r + 1) = some (.hd r 0 m sz m true) := by rw [Hp.get_new' hnx1 hl', if_pos rfl]
      have g1 : (((⟨.lf, r⟩ : Hp).new (.cells e (cellsAll l))).new (.hd r 0 m sz m true)).get r = some (.cells e (cellsAll l)) := by rw [Hp.get_new' hnx1 hl', if_neg (by omega), Hp.get_new' (n := r) rfl (by omega), if_pos rfl]
      refine made (q := [(r, .cells e (cellsAll l)), (r + 1, .hd r 0 m sz m true)]) (m := mk2 r (((⟨.lf, r⟩ : Hp).new (.cells e (cellsAll l))).new (.hd r 0 m sz m true))) ?_ (fun t => ?_) ?_
      ·
       rw [hop]
       simp only [softI, memO, Bool.true_or, baseI, sliO, heff]
       rw [hnx, decide_eq_true (show r + 2 ≤ r + 2 from Nat.le_refl _), decide_eq_true hl']
       rfl
      ·
       rw [mk2_merge]
       unfold ent1
       rw [g1, g2]
       rfl
      ·
       rw [hop]; rfl
    ·
     -- another one
     cases hc
     show Le (fcN (n0 + ridI ops i) _) _
     rw [fcN_eq]
     unfold mkG
     have hrf : rfR K N (namesI ops o) L T = opdR K (namesI ops o) ⟨N.zip L, T⟩ := rfl
     rw [hrf]
     cases hso : softI E ⟨h, n⟩ (n0 + ridI ops i) (opdR K (namesI ops o) ⟨N.zip L, T⟩) o.op with
     | none => exact Le.bad _
     | some q =>
      obtain ⟨s, m⟩ := q
      cases m with
      | none => exact Le.bad _
      | some m =>
       simp only
       split
       ·
        rename_i hwi
        simp only [kO_some, fc2_eq, fcP_eq]
        have hmt : ∀ t, m.t.merge t = layP (ent1 (n0 + ridI ops i) m ++ ent1 (n0 + ridI ops i + 1) m) t := by
         intro t
         exact soft_made hso t
        have hmd := made hso hmt hwi
        rw [hso] at hmd
        simp only [fc2_eq] at hmd
        exact hmd
       ·
        exact Le.bad _
   ·
    -- the soft ones that only look
    rename_i hmk
    split at hc
    rotate_left
    ·
     cases hc
    rename_i oi' hoi
    have soft : ∀ {s : SV}, valI E ⟨h, n⟩ (opdR K (namesI ops o) ⟨N.zip L, T⟩) o.op = some s → winI E (opdR K (namesI ops o) ⟨N.zip L, T⟩) o.op s (match (sliO o.op).bind (opdR K (namesI ops o) ⟨N.zip L, T⟩) with
       | some (.osl k) => ((⟨h, n⟩ : Hp).get k).map fun b => (k, b)
       | _ => none) ((hist.drop 1).take (winN rms k' hk' i o.op)) = true →
     Le (finJ d s L T h n fun L T h n => R L T h n p hist) (kO (match softI E ⟨h, n⟩ (n0 + ridI ops i) (opdR K (namesI ops o) ⟨N.zip L, T⟩) o.op with
   | some (s, made) => fc2 s fun s => match putD K nt o.dst s ⟨N.zip L, T⟩, (match memO o.op || !(readO o.op || (sliO o.op).isSome) with
     | true => true
     | false => winI E (opdR K (namesI ops o) ⟨N.zip L, T⟩) o.op s (match (sliO o.op).bind (opdR K (namesI ops o) ⟨N.zip L, T⟩) with
       | some (.osl k) => ((⟨h, n⟩ : Hp).get k).map fun b => (k, b)
       | _ => none) ((hist.drop 1).take (k' - loD (rms.getD i 0) hk'))) with
    | some ρ', true => some ((⟨i, false, true, k', ⟨N.zip L, T⟩, ⟨h, n⟩, s, made, ⟨h, n⟩, ⟨h, n⟩, loD (rms.getD i 0) hk'⟩ : Rec), (⟨ρ', ⟨h, n⟩, hist, (match made with | some h => h :: pend | none => pend), k', hk'⟩ : DS))
    | _, _ => none
   | none => none) fun q => F q.2) := by
     intro s hv hwi
     have hso : softI E ⟨h, n⟩ (n0 + ridI ops i) (opdR K (namesI ops o) ⟨N.zip L, T⟩) o.op = some (s, none) := by
      unfold softI
      have : (memO o.op || (sliO o.op).isSome) = false := hmk
      rw [this, hv]
     rw [hso]
     simp only [fc2_eq]
     rw [win_of rfl hwi]
     refine (put s h n p hist (fun ρ' => ⟨ρ', ⟨h, n⟩, hist, pend, k', hk'⟩) (fun L' T' => ⟨rfl, rfl, rfl, hpd, rfl, rfl⟩)).trans (Le.of_eq ?_)
     cases putD K nt o.dst s ⟨N.zip L, T⟩ <;> rfl
    have sl : sliO o.op = none := by
     have : (memO o.op || (sliO o.op).isSome) = false := hmk
     simp only [Bool.or_eq_false_iff] at this
     cases e : sliO o.op with
     | none => rfl
     | some _ => rw [e] at this; cases this.2
    have opv : ∀ {A : SV → JR}, kO (opI E (callO cj) ⟨h, n⟩ (opdR K (namesI ops o) ⟨N.zip L, T⟩) o.op) (fun q => A q.1) = kO (valI E ⟨h, n⟩ (opdR K (namesI ops o) ⟨N.zip L, T⟩) o.op) A := by
     intro A
     rw [opI_gen (soft_notCall hh)]
     unfold opG
     rw [soft_eff hh hmk]
     cases valI E ⟨h, n⟩ (opdR K (namesI ops o) ⟨N.zip L, T⟩) o.op <;> rfl
    split at hc
    ·
     rename_i hw0
     cases hc
     refine (compO_le xoR_ok rfl hoi _).trans ?_
     rw [opv (A := fun s => finJ d s L T h n fun L T h n => R L T h n p hist)]
     cases hv : valI E ⟨h, n⟩ (opdR K (namesI ops o) ⟨N.zip L, T⟩) o.op with
     | none => exact Le.bad _
     | some s => exact soft hv (by rw [hw0]; rfl)
    ·
     rename_i w hw0
     cases hc
     refine (compO_le xoR_ok rfl hoi _).trans ?_
     rw [opv (A := fun s => bB (winI E (rfR K N (namesI ops o) L T) o.op s none ((hist.drop 1).take (w + 1))) (finJ d s L T h n fun L T h n => R L T h n p hist) .bad)]
     cases hv : valI E ⟨h, n⟩ (opdR K (namesI ops o) ⟨N.zip L, T⟩) o.op with
     | none => exact Le.bad _
     | some s =>
      rw [kO_some]
      cases hwi : winI E (rfR K N (namesI ops o) L T) o.op s none ((hist.drop 1).take (w + 1)) with
      | false => exact Le.bad _
      | true => exact soft hv (by rw [hw0, sl]; exact hwi)
 unfold compG at hg
 split at hg
 ·
  rename_i hgo
  cases hg
  exact run (by unfold wantI; rw [hgo])
 ·
  rename_i j b0 hgo
  split at hg
  rotate_left
  ·
   cases hg
  rename_i gt hgt
  split at hg
  rotate_left
  ·
   cases hg
  rename_i x hx
  cases hg
  show Le (rdX x L T _) _
  refine rd_elim xoC_ok hx fun s hs => ?_
  rw [svBool_eq]
  split
  ·
   rename_i b
   have hw : wantI K ops ⟨N.zip L, T⟩ o = some (b == b0) := by
    unfold wantI
    rw [hgo]
    simp only [hgt]
    have : (⟨N.zip L, T⟩ : RE).get K gt = some (.bool b) := hs
    rw [this]
   rw [eqB_eq]
   cases hb : (b == b0) with
   | true => rw [bB_t]; exact run (by rw [hw, hb])
   | false =>
    rw [bB_f]
    rw [hb] at hw
    unfold stepD
    simp only [ho, hw]
    cases hh : hardO o.op with
    | true =>
     simp only [hh] at put ⊢
     have hsk : skD oi = skHard := by
      unfold compDO at hc
      rw [hh] at hc
      simp only at hc
      split at hc <;> cases hc
      rfl
     rw [hsk]
     show Le (layJ p h _) _
     rw [layJ_eq]
     refine (put (.con undef) (layP p h) n [] (⟨layP p h, n⟩ :: hist) (fun ρ' => ⟨ρ', mergeI pend ⟨h, n⟩, mergeI pend ⟨h, n⟩ :: hist, [], k' + 1, i :: hk'⟩) (fun L' T' => ⟨rfl, hF, by rw [hF], PendOK.nil, rfl, rfl⟩)).trans (Le.of_eq ?_)
     cases putD K nt o.dst (.con undef) ⟨N.zip L, T⟩ <;> rfl
    | false =>
     simp only [hh] at put ⊢
     have hsk : skD oi = skSoft := by
      unfold compDO at hc
      rw [hh] at hc
      simp only at hc
      repeat' (split at hc)
      all_goals first
       | (cases hc; done)
       | (cases hc; rfl)
     rw [hsk]
     refine (put (.con undef) h n p hist (fun ρ' => ⟨ρ', ⟨h, n⟩, hist, pend, k', hk'⟩) (fun L' T' => ⟨rfl, rfl, rfl, hpd, rfl, rfl⟩)).trans (Le.of_eq ?_)
     cases putD K nt o.dst (.con undef) ⟨N.zip L, T⟩ <;> rfl
  ·
   cases s with
   | con v =>
    show Le (bB (noB v) _ _) _
    cases hv : noB v with
    | false => exact Le.bad _
    | true =>
     have hw : wantI K ops ⟨N.zip L, T⟩ o = some false := by
      unfold wantI
      rw [hgo]
      simp only [hgt]
      have : (⟨N.zip L, T⟩ : RE).get K gt = some (.con v) := hs
      rw [this]
      simp only [hv]
     rw [bB_t]
     unfold stepD
     simp only [ho, hw]
     cases hh : hardO o.op with
     | true =>
      simp only [hh] at put ⊢
      have hsk : skD oi = skHard := by
       unfold compDO at hc
       rw [hh] at hc
       simp only at hc
       split at hc <;> cases hc
       rfl
      rw [hsk]
      show Le (layJ p h _) _
      rw [layJ_eq]
      refine (put (.con undef) (layP p h) n [] (⟨layP p h, n⟩ :: hist) (fun ρ' => ⟨ρ', mergeI pend ⟨h, n⟩, mergeI pend ⟨h, n⟩ :: hist, [], k' + 1, i :: hk'⟩) (fun L' T' => ⟨rfl, hF, by rw [hF], PendOK.nil, rfl, rfl⟩)).trans (Le.of_eq ?_)
      cases putD K nt o.dst (.con undef) ⟨N.zip L, T⟩ <;> rfl
     | false =>
      simp only [hh] at put ⊢
      have hsk : skD oi = skSoft := by
       unfold compDO at hc
       rw [hh] at hc
       simp only at hc
       repeat' (split at hc)
       all_goals first
        | (cases hc; done)
        | (cases hc; rfl)
      rw [hsk]
      refine (put (.con undef) h n p hist (fun ρ' => ⟨ρ', ⟨h, n⟩, hist, pend, k', hk'⟩) (fun L' T' => ⟨rfl, rfl, rfl, hpd, rfl, rfl⟩)).trans (Le.of_eq ?_)
      cases putD K nt o.dst (.con undef) ⟨N.zip L, T⟩ <;> rfl
   | _ => exact Le.bad _
theorem runDI_le : ∀ (l N : List Nat) (k : Nat) (hk : List Nat) (r : DI), compDI E.P K nt ops rms l N k hk = some r → ∀ (st : DS) (L : List SV) (T : Tr SV) (h : Tr IB) (n : Nat) (p : Pe) (hs : List Hp), DRel K N k hk st L T h n p hs →
  Le (exDI r E cj n0 L T h n p hs) (kO (runD E (callO cj) K nt ops rms n0 l st) fun q => .ok .n .any q.2.ρ.t (mergeI q.2.pend q.2.G).t (mergeI q.2.pend q.2.G).nx) := by
 intro l
 induction l with
 | nil =>
  intro N k hk r hr st L T h n p hs hD
  cases hr
  show Le (layJ p h _) _
  rw [layJ_eq]
  refine Le.of_eq ?_
  show _ = JR.ok .n .any st.ρ.t (mergeI st.pend st.G).t (mergeI st.pend st.G).nx
  rw [hD.pend, hD.G, hD.ρ]
 | cons i l ih =>
  intro N k hk r hr st L T h n p hs hD
  simp only [compDI] at hr
  split at hr
  ·
   cases hr
  rename_i o ho
  split at hr
  rotate_left
  ·
   cases hr
  rename_i oi d N' g hc hd hg
  split at hr
  rotate_left
  ·
   cases hr
  rename_i r' hr'
  cases hr
  show Le (gdD g oi d E cj n0 L T h n p hs (exDI r' E cj n0)) _
  refine (stepD_le (n0 := n0) (cj := cj) ho hc hd hg hD (R := exDI r' E cj n0) (F := fun st' => kO (runD E (callO cj) K nt ops rms n0 l st') fun q => .ok .n .any q.2.ρ.t (mergeI q.2.pend q.2.G).t (mergeI q.2.pend q.2.G).nx) (fun st' L' T' h' n' p' hs' hD' => ?_)).trans (Le.of_eq ?_)
  ·
   cases hh : hardO o.op with
   | true => rw [hh] at hr' hD'; exact ih _ _ _ _ hr' st' L' T' h' n' p' hs' hD'
   | false => rw [hh] at hr' hD'; exact ih _ _ _ _ hr' st' L' T' h' n' p' hs' hD'
  ·
   simp only [runD]
   cases stepD E (callO cj) K nt ops rms n0 i st with
   | none => rfl
   | some q =>
    simp only [kO_some]
    cases runD E (callO cj) K nt ops rms n0 l q.2 <;> rfl
theorem regDr_le {r : DI} (hr : compDr E.P K nt ops = some r) (T : Tr SV) (h : Tr IB) (n : Nat) : Le (runDr r (mkN ops) E cj T h n) (toR (regI E (callO cj) K nt ops ⟨⟨[], T⟩, ⟨h, n⟩⟩)) := by
 unfold compDr at hr
 split at hr
 rotate_left
 ·
  cases hr
 rename_i hdr
 unfold runDr regI
 rw [fcN_eq, hdr]
 refine (runDI_le (n0 := n) (cj := cj) _ _ _ _ _ hr ⟨⟨[], T⟩, ⟨h, n + mkN ops⟩, [⟨h, n + mkN ops⟩], [], 0, []⟩ [] T h (n + mkN ops) [] [⟨h, n + mkN ops⟩] ⟨rfl, rfl, rfl, PendOK.nil, rfl, rfl⟩).trans (Le.of_eq ?_)
 simp only
 cases runD E (callO cj) K nt ops (reachM ops) n (schedI ops) ⟨⟨[], T⟩, ⟨h, n + mkN ops⟩, [⟨h, n + mkN ops⟩], [], 0, []⟩ <;> rfl
end
inductive CJ where
 | skip
 | rg (r : RI)
 | rgd (r : DI) (rs : Nat)
 | seq (a b : CJ)
 | cond (x : XO) (a b : CJ)
 | block (i : Nat) (b : CJ)
 | loop (b : CJ)
 | exit (i : Nat)
 | ret
 | bad
abbrev CX := Env → CallJ → Nat → Tr SV → Tr IB → Nat → JR
noncomputable def outC (q : Out) (n : Tr SV → Tr IB → Nat → JR) (x : Nat → Tr SV → Tr IB → Nat → JR) (T : Tr SV) (h : Tr IB) (m : Nat) : JR := Out.rec (motive := fun _ => (Tr SV → Tr IB → Nat → JR) → (Nat → Tr SV → Tr IB → Nat → JR) → Tr SV → Tr IB → Nat → JR) (fun n _ T h m => n T h m) (fun i _ x T h m => x i T h m) (fun _ _ T h m => .ok .r .any T h m) q n x T h m
noncomputable def jC (r : JR) (n : Tr SV → Tr IB → Nat → JR) (x : Nat → Tr SV → Tr IB → Nat → JR) : JR := JR.rec (motive := fun _ => (Tr SV → Tr IB → Nat → JR) → (Nat → Tr SV → Tr IB → Nat → JR) → JR) (fun _ _ => .bad) (fun q _ T h m n x => outC q n x T h m) r n x
noncomputable def xJ (i : Nat) (T : Tr SV) (h : Tr IB) (m : Nat) : JR := .ok (.x i) .any T h m
noncomputable def nJ (T : Tr SV) (h : Tr IB) (m : Nat) : JR := .ok .n .any T h m
noncomputable def cSkip : CX := fun _ _ _ T h n => .ok .n .any T h n
noncomputable def cRg (r : RI) : CX := fun E cj _ T h n => exR r E cj [] T h n
noncomputable def cRgd (r : DI) (rs : Nat) : CX := fun E cj _ T h n => runDr r rs E cj T h n
noncomputable def cSeq (_ _ : CJ) (a b : CX) : CX := fun E cj lm T h n => jC (a E cj lm T h n) (b E cj lm) xJ
noncomputable def cCond (x : XO) (_ _ : CJ) (a b : CX) : CX := fun E cj lm T h n => rdX x [] T fun c => svBool c (fun c => bB c (a E cj lm T h n) (b E cj lm T h n)) .bad
noncomputable def cBlock (i : Nat) (_ : CJ) (b : CX) : CX := fun E cj lm T h n => jC (b E cj lm T h n) nJ fun j T h n => bB (Nat.beq j i) (.ok .n .any T h n) (.ok (.x j) .any T h n)
noncomputable def loopC (b : Tr SV → Tr IB → Nat → JR) (m : Nat) : Tr SV → Tr IB → Nat → JR := Nat.rec (motive := fun _ => Tr SV → Tr IB → Nat → JR) (fun _ _ _ => .bad) (fun _ ih T h n => jC (b T h n) ih xJ) m
noncomputable def cLoop (_ : CJ) (b : CX) : CX := fun E cj lm => loopC (b E cj lm) lm
noncomputable def cExit (i : Nat) : CX := fun _ _ _ T h n => .ok (.x i) .any T h n
noncomputable def cRet : CX := fun _ _ _ T h n => .ok .r .any T h n
noncomputable def cBad : CX := fun _ _ _ _ _ _ => .bad
noncomputable def exC (c : CJ) : CX := CJ.rec (motive := fun _ => CX) cSkip cRg cRgd cSeq cCond cBlock cLoop cExit cRet cBad c
def compC (P : Program) (K nt : Nat) : Code → Option CJ
 | .skip => some .skip
 | .label _ => some .skip
 | .region _ ops d => match d with
  | true => match compDr P K nt ops with
   | some r => some (.rgd r (mkN ops))
   | none => some .bad
  | false => match compS P K nt ops ops.toList [] with
   | some r => some (.rg r)
   | none => some .bad
 | .seq a b => match compC P K nt a, compC P K nt b with
  | some a, some b => some (.seq a b)
  | _, _ => none
 | .cond c x y => match xoC K [] c, compC P K nt x, compC P K nt y with
  | some c, some x, some y => some (.cond c x y)
  | _, _, _ => none
 | .block i b => match compC P K nt b with
  | some b => some (.block i b)
  | none => none
 | .loop b => match compC P K nt b with
  | some b => some (.loop b)
  | none => none
 | .exit i => some (.exit i)
 | .ret => some .ret
 | .scope b => compC P K nt b
 | _ => some .bad
def LeC (a : JR) (o : Option (Out × FS)) : Prop := a = .bad ∨ ∃ q T h n, a = .ok q .any T h n ∧ o = some (q, ⟨⟨[], T⟩, ⟨h, n⟩⟩)
section
variable {E : Env} {cj : CallJ} {K nt lm : Nat}
theorem seqI_nil {ops : Array Oper} : ∀ (l : List Oper) (st st' : FS), seqI E (callO cj) K nt ops l st = some st' → st'.ρ.l = []
 | [], st, st', h => by cases h; rfl
 | o :: l, st, st', h => by
  simp only [seqI] at h
  split at h
  ·
   exact seqI_nil l _ _ h
  ·
   cases h
theorem regI_nil {ops : Array Oper} {st st' : FS} (h : regI E (callO cj) K nt ops st = some st') : st'.ρ.l = [] := by
 unfold regI at h
 split at h
 ·
  split at h
  ·
   cases h; rfl
  ·
   cases h
 ·
  cases h
theorem toR_leC {o : Option FS} (hn : ∀ st, o = some st → st.ρ.l = []) {a : JR} (h : Le a (toR o)) {F : Option (Out × FS)} (hF : ∀ st, o = some st → F = some (.n, st)) : LeC a F := by
 cases o with
 | none => rcases h with rfl | rfl <;> exact .inl rfl
 | some st =>
  rw [hF st rfl]
  rcases h with rfl | rfl
  ·
   exact .inl rfl
  ·
   refine .inr ⟨.n, st.ρ.t, st.h.t, st.h.nx, rfl, ?_⟩
   have := hn st rfl
   obtain ⟨⟨l, t⟩, ⟨ht, nx⟩⟩ := st
   cases this
   rfl
theorem compC_le : ∀ (c : Code) (k : CJ), compC E.P K nt c = some k → ∀ (T : Tr SV) (h : Tr IB) (n : Nat), LeC (exC k E cj lm T h n) (codeI E (callO cj) K nt lm c ⟨⟨[], T⟩, ⟨h, n⟩⟩) := by
 intro c
 induction c with
 | skip => intro k hk T h n; cases hk; exact .inr ⟨_, _, _, _, rfl, rfl⟩
 | label l => intro k hk T h n; cases hk; exact .inr ⟨_, _, _, _, rfl, rfl⟩
 | region id ops d =>
  intro k hk T h n
  cases d with
  | true =>
   simp only [compC] at hk
   split at hk
   rotate_left
   ·
    cases hk; exact .inl rfl
   rename_i r hr
   cases hk
   show LeC (runDr r (mkN ops) E cj T h n) _
   simp only [codeI]
   exact toR_leC (fun st hst => regI_nil hst) (regDr_le hr T h n) (fun st hst => by rw [hst])
  | false =>
   simp only [compC] at hk
   split at hk
   rotate_left
   ·
    cases hk; exact .inl rfl
   rename_i r hr
   cases hk
   show LeC (exR r E cj [] T h n) _
   simp only [codeI]
   exact toR_leC (fun st hst => seqI_nil _ _ _ hst) (compS_le _ _ _ hr [] T h n) (fun st hst => by
    have hst' : seqI E (callO cj) K nt ops ops.toList ⟨⟨[], T⟩, ⟨h, n⟩⟩ = some st := hst
    rw [hst'])
 | seq x y ihx ihy =>
  intro k hk T h n
  simp only [compC] at hk
  split at hk
  rotate_left
  ·
   cases hk
  rename_i a b ha hb
  cases hk
  show LeC (jC (exC a E cj lm T h n) (exC b E cj lm) xJ) _
  simp only [codeI]
  rcases ihx a ha T h n with e | ⟨q, T', h', n', e1, e2⟩
  ·
   rw [e]; exact .inl rfl
  ·
   rw [e1, e2]
   cases q with
   | n => exact ihy b hb T' h' n'
   | x i => exact .inr ⟨_, _, _, _, rfl, rfl⟩
   | r => exact .inr ⟨_, _, _, _, rfl, rfl⟩
 | cond c x y ihx ihy =>
  intro k hk T h n
  simp only [compC] at hk
  split at hk
  rotate_left
  ·
   cases hk
  rename_i c' a b hc ha hb
  cases hk
  show LeC (rdX c' [] T _) _
  rw [rdX_eq]
  cases hv : vX c' [] T with
  | none => exact .inl rfl
  | some s =>
   have hs := (xoC_ok (K := K) (N := []) (L := []) (T := T)) c c' s hc hv
   have hs' : opdI K ⟨[], T⟩ c = some s := hs
   show LeC (svBool s _ _) _
   rw [svBool_eq]
   simp only [codeI, hs']
   split
   ·
    rename_i b
    cases b with
    | true => exact ihx a ha T h n
    | false => exact ihy _ hb T h n
   ·
    exact .inl rfl
 | block i b ih =>
  intro k hk T h n
  simp only [compC] at hk
  split at hk
  rotate_left
  ·
   cases hk
  rename_i b' hb
  cases hk
  show LeC (jC (exC b' E cj lm T h n) nJ _) _
  simp only [codeI]
  rcases ih b' hb T h n with e | ⟨q, T', h', n', e1, e2⟩
  ·
   rw [e]; exact .inl rfl
  ·
   rw [e1, e2]
   cases q with
   | n => exact .inr ⟨_, _, _, _, rfl, rfl⟩
   | x j =>
    show LeC (bB (Nat.beq j i) _ _) _
    simp only
    cases Nat.beq j i <;> exact .inr ⟨_, _, _, _, rfl, rfl⟩
   | r => exact .inr ⟨_, _, _, _, rfl, rfl⟩
 | loop b ih =>
  intro k hk T h n
  simp only [compC] at hk
  split at hk
  rotate_left
  ·
   cases hk
  rename_i b' hb
  cases hk
  show LeC (loopC (exC b' E cj lm) lm T h n) _
  simp only [codeI]
  have key : ∀ (m : Nat) (T : Tr SV) (h : Tr IB) (n : Nat), LeC (loopC (exC b' E cj lm) m T h n) (loopI (fun st => codeI E (callO cj) K nt lm b st) m ⟨⟨[], T⟩, ⟨h, n⟩⟩) := by
   intro m
   induction m with
   | zero => intro T h n; exact .inl rfl
   | succ m ihm =>
    intro T h n
    show LeC (jC (exC b' E cj lm T h n) (loopC (exC b' E cj lm) m) xJ) _
    simp only [loopI]
    rcases ih b' hb T h n with e | ⟨q, T', h', n', e1, e2⟩
    ·
     rw [e]; exact .inl rfl
    ·
     rw [e1, e2]
     cases q with
     | n => exact ihm T' h' n'
     | x i => exact .inr ⟨_, _, _, _, rfl, rfl⟩
     | r => exact .inr ⟨_, _, _, _, rfl, rfl⟩
  exact key lm T h n
 | exit i => intro k hk T h n; cases hk; exact .inr ⟨_, _, _, _, rfl, rfl⟩
 | ret => intro k hk T h n; cases hk; exact .inr ⟨_, _, _, _, rfl, rfl⟩
 | rangeFunc f p x y _ _ => intro k hk; cases hk; exact fun _ _ _ => .inl rfl
 | scope b ih =>
  intro k hk T h n
  simp only [compC] at hk
  simp only [codeI]
  exact ih k hk T h n
 | goto l => intro k hk; cases hk; exact fun _ _ _ => .inl rfl
 | refuse s => intro k hk; cases hk; exact fun _ _ _ => .inl rfl
end
section
variable {glob : Nat → Option SV} {B0 : Nat} {w0 w : World} {h : Hp} {μ : Mu}
theorem HI.adopt (hi : HI glob B0 w0 w h μ) {w' : World} (hfr : Fr w.heap.size (fun _ => False) w w') (hf : μ h.nx = none) (hl : h.nx < lim) {bl : IB} {x : Value} {b0 : Nat} (hx : blkOf x = some b0) (hb1 : w.heap.size ≤ b0) (hb2 : b0 < w'.heap.size)
  (hok : ∀ H μ', (∀ j y, μ j = some y → μ' j = some y) → μ' h.nx = some x → IBOK w' H μ' h.nx bl) :
  HI glob B0 w0 w' (h.new bl) (μ.set h.nx x) ∧ Mv B0 w w' h (h.new bl) μ (μ.set h.nx x) := by
 have hown := mu_set_own (x := x) hf
 have hHd : ∀ b, Hd (h.new bl) (μ.set h.nx x) b → b = b0 ∨ Hd h μ b := by
  rintro b ⟨k, bl', y, e, hh', hy, hb⟩
  rw [Hp.get_new hl] at e
  split at e
  ·
   rename_i hk
   left
   subst hk
   have : y = x := by simpa [Mu.set] using hy.symm
   subst this
   rw [hx] at hb
   exact (Option.some.inj hb).symm
  ·
   rename_i hne
   right
   exact ⟨k, bl', y, e, hh', by simpa [Mu.set, hne] using hy, hb⟩
 have hold : ∀ b, b < w.heap.size → w'.heap[b]? = w.heap[b]? := fun b hb => hfr.block b hb (fun h => h)
 have hm : Mv B0 w w' h (h.new bl) μ (μ.set h.nx x) := ⟨hown, hfr.size, fun b hb _ => hold b hb, fun b hb hh => by
  rcases hHd b hh with e | e
  ·
   omega
  ·
   exact e, fun b hb _ => hold b hb, fun b c T z e => ⟨c, z, (hold b (Array.getElem?_eq_some_iff.1 e).1).trans e, rfl⟩, Nat.le_succ _, fun k hk => by
   have hk' : k < h.nx ∨ h.nx + 1 ≤ k := hk
   unfold Mu.set; rw [if_neg (by omega)], fun k hk hn => by
   have hk' : k < h.nx ∨ h.nx + 1 ≤ k := hk
   rw [Hp.get_new hl, if_neg (by omega)]; exact hn⟩
 refine ⟨⟨fun k bl' e => ?_, fun k k' b1 b2 x1 x2 b e1 e2 h1 h2 m1 m2 q1 q2 => ?_, fun b hb => ?_, hi.fr.trans ⟨hfr.os, hfr.tape, hfr.output, hfr.drawn, hfr.size, fun i hi' _ => hfr.block i (Nat.lt_of_lt_of_le hi' hi.base) (fun h => h)⟩, Nat.le_trans hi.base hfr.size, hi.glo_mv hm⟩, hm⟩
 ·
  rw [Hp.get_new hl] at e
  split at e
  ·
   rename_i hk2; cases e; subst hk2; exact hok _ _ hown (by simp [Mu.set])
  ·
   exact (hi.blk k bl' e).mv hm (fun hh y b hy hb => hold b (hi.rng b ⟨k, bl', y, e, hh, hy, hb⟩).2)
 ·
  have side : ∀ {k : Nat} {b1 : IB} {x1 : Value}, (h.new bl).get k = some b1 → b1.holds = true → (μ.set h.nx x) k = some x1 → blkOf x1 = some b → (k = h.nx ∧ b = b0) ∨ (k ≠ h.nx ∧ h.get k = some b1 ∧ μ k = some x1) := by
   intro k b1 x1 e hh' hy hb
   rw [Hp.get_new hl] at e
   split at e
   ·
    rename_i hk2
    subst hk2
    have : x1 = x := by simpa [Mu.set] using hy.symm
    subst this
    rw [hx] at hb
    exact .inl ⟨rfl, (Option.some.inj hb).symm⟩
   ·
    rename_i hne
    exact .inr ⟨hne, e, by simpa [Mu.set, hne] using hy⟩
  rcases side e1 h1 m1 q1 with ⟨a1, a2⟩ | ⟨a1, a2, a3⟩ <;> rcases side e2 h2 m2 q2 with ⟨c1, c2⟩ | ⟨c1, c2, c3⟩
  ·
   rw [a1, c1]
  ·
   have := (hi.rng b ⟨k', b2, x2, c2, h2, c3, q2⟩).2; omega
  ·
   have := (hi.rng b ⟨k, b1, x1, a2, h1, a3, q1⟩).2; omega
  ·
   exact hi.inj k k' b1 b2 x1 x2 b a2 c2 h1 h2 a3 c3 q1 q2
 ·
  rcases hHd b hb with e | e
  ·
   subst e; exact ⟨Nat.le_trans hi.base hb1, hb2⟩
  ·
   exact ⟨(hi.rng b e).1, Nat.lt_of_lt_of_le (hi.rng b e).2 hfr.size⟩
end
def NSound (P : Program) (glob : Nat → Option SV) (f : FuncId) (T : TypeId) (sz : Nat) (k : List SV → Option (Nat × List SV)) : Prop :=
 (∃ fn, P.funcs[f]? = some fn ∧ (fn.name == "runtime.NumGoroutine") = false ∧ fn.body.isNone = false) ∧
 ∀ (w : World) (args : List SV) (vals : List Value) (n : Nat) (cs : List SV), k args = some (n, cs) → (args.all SV.flat1 = true ∧ 0 < sz ∧ 0 < n ∧ n * sz = cs.length ∧ n ≤ maxLen) ∧
  ((∀ g t, glob g = some t → t.pure = true ∧ D w (fun _ => False) Nobody t (.pointer (some ⟨g, 0, none⟩))) → DL w (fun _ => False) Nobody args vals → Calls P f vals.toArray w fun e w' => ∃ (b : Nat) (vs : List Value), e = .returned (.tuple #[.slice (some ⟨b, 0, none⟩) n n, .int .i64 0]) ∧ w.heap.size ≤ b ∧ w'.heap[b]? = some (.cells (List.toArray vs) T (0, 0)) ∧
   cs.length ≤ vs.length ∧ (∀ v ∈ vs, v.oneCell' = true) ∧ (∀ (i : Nat) (s : SV) (v : Value), cs[i]? = some s → vs[i]? = some v → D w' (fun _ => False) Nobody s v ∧ s.flat0 = true) ∧ Fr w.heap.size (fun _ => False) w w')
structure ConH where
 f : FuncId
 T : TypeId
 sz : Nat
 k : List SV → Option (Nat × List SV)
def ConHOK (P : Program) (glob : Nat → Option SV) (cs : List ConH) : Prop := ∀ c ∈ cs, NSound P glob c.f c.T c.sz c.k
theorem conh_sound {P : Program} {glob : Nat → Option SV} {B0 : Nat} {w0 : World} {f : FuncId} {T : TypeId} {sz : Nat} {k : List SV → Option (Nat × List SV)} (hs : NSound P glob f T sz k) {args : List SV} {h : Hp} {n : Nat} {cs : List SV} (hl : h.nx + 1 < lim) (hk : k args = some (n, cs)) :
  CallOK1 P glob B0 w0 f args h (.tup [.osl (h.nx + 1), .int .i64 0]) ((h.new (.cells T cs)).new (.hd h.nx 0 n sz n true)) := by
 refine ⟨hs.1, fun w μ vals hi hfr hD => ?_⟩
 obtain ⟨⟨hfa, hsz, hn0, hlen, hmax⟩, hC⟩ := hs.2 w args vals n cs hk
 refine (hC (fun g t hg => ⟨(hi.glo g t hg).1, pure_mono (fun b hb => hb.elim) (hi.glo g t hg).2 (hi.glo g t hg).1⟩) ⟨hD.1, fun i x v hx hv => flat1_D (List.all_eq_true.1 hfa x (List.mem_of_getElem? hx)) (hD.2 i x v hx hv)⟩).mono ?_
 rintro e w' ⟨b, vs, rfl, hb1, hrow, hcl, hone, hd, hf⟩
 have hb2 : b < w'.heap.size := (Array.getElem?_eq_some_iff.1 hrow).1
 have hne : h.nx ≠ h.nx + 1 := by omega
 obtain ⟨g1, g2⟩ := hi.adopt hf (hfr _ (Nat.le_refl _)) (by omega) (bl := .cells T cs) (x := .pointer (some ⟨b, 0, none⟩)) (b0 := b) rfl hb1 hb2 (fun H μ' _ hx => ⟨b, 0, vs, hx, hrow, by omega, hone, fun i s v hs hv => by
  rw [Nat.zero_add] at hv
  exact flat0_D (hd i s v hs hv).2 (hd i s v hs hv).1⟩)
 have hnx : (h.new (.cells T cs)).nx = h.nx + 1 := Hp.new_nx _ _
 have hf2 : (μ.set h.nx (.pointer (some ⟨b, 0, none⟩))) (h.new (.cells T cs)).nx = none := by
  rw [hnx]; unfold Mu.set; rw [if_neg (by omega)]; exact hfr _ (by omega)
 obtain ⟨k1, k2⟩ := g1.newh hf2 (by rw [hnx]; exact hl) (bl := .hd h.nx 0 n sz n true) (x := .slice (some ⟨b, 0, none⟩) n n) rfl (fun H μ' hown hx => ⟨some ⟨b, 0, none⟩, n, hx, Nat.le_refl _, Nat.le_refl _, fun _ => rfl, hmax, ⟨hsz, rfl⟩, fun _ => ⟨b, 0, rfl, hown _ _ (by simp [Mu.set]), vs.toArray, T, (0, 0), hrow, by simp; omega⟩⟩)
 refine ⟨_, _, rfl, k1, g2.trans k2, ?_⟩
 have e1 : (#[.slice (some ⟨b, 0, none⟩) n n, .int .i64 0] : Array Value) = ([.slice (some ⟨b, 0, none⟩) n n, .int .i64 0] : List Value).toArray := rfl
 rw [e1]
 refine .tup _ rfl (fun i s v hs hv => ?_)
 match i, hs, hv with
 | 0, hs, hv => cases hs; cases hv; exact .osl (by rw [hnx]; simp [Mu.set])
 | 1, hs, hv => cases hs; cases hv; exact .int
 | j + 2, hs, hv => simp at hs
def mapO {α β : Type} (f : α → Option β) : List α → Option (List β)
 | [] => some []
 | a :: r => match f a with
  | some b => match mapO f r with
   | some bs => some (b :: bs)
   | none => none
  | none => none
theorem mapO_get {α β : Type} {f : α → Option β} : ∀ {l : List α} {m : List β}, mapO f l = some m → m.length = l.length ∧ ∀ (i : Nat) (b : β), m[i]? = some b → ∃ a, l[i]? = some a ∧ f a = some b
 | [], m, h => by cases h; exact ⟨rfl, fun i b h => by simp at h⟩
 | a :: r, m, h => by
  simp only [mapO] at h
  split at h
  rotate_left
  ·
   cases h
  rename_i b hb
  split at h
  rotate_left
  ·
   cases h
  rename_i bs hbs
  cases h
  obtain ⟨h1, h2⟩ := mapO_get hbs
  refine ⟨by simp [h1], fun i c hc => ?_⟩
  match i, hc with
  | 0, hc => simp at hc; subst hc; exact ⟨a, rfl, hb⟩
  | i + 1, hc => obtain ⟨x, hx, e⟩ := h2 i c (by simpa using hc); exact ⟨x, by simpa using hx, e⟩
def rn0 (ρ : Nat → Option Nat) : SV → Option SV
 | .int k n => some (.int k n)
 | .bool b => some (.bool b)
 | .con v => some (.con v)
 | .any => some .any
 | .own k o => match ρ k with
  | some j => some (.own j o)
  | none => none
 | .osl k => match ρ k with
  | some j => some (.osl j)
  | none => none
 | .oel k sz i o => match ρ k with
  | some j => some (.oel j sz i o)
  | none => none
 | _ => none
def rn1 (ρ : Nat → Option Nat) : SV → Option SV
 | .agg cs => match mapO (rn0 ρ) cs with
  | some cs => some (.agg cs)
  | none => none
 | .clo f cs => match mapO (rn0 ρ) cs with
  | some cs => some (.clo f cs)
  | none => none
 | s => rn0 ρ s
def rn2 (ρ : Nat → Option Nat) : SV → Option SV
 | .tup cs => match mapO (rn1 ρ) cs with
  | some cs => some (.tup cs)
  | none => none
 | s => rn1 ρ s
def rnB (ρ : Nat → Option Nat) : IB → Option IB
 | .cells T cs => match mapO (rn1 ρ) cs with
  | some cs => some (.cells T cs)
  | none => none
 | .hd j o n sz c e => match ρ j with
  | some j => some (.hd j o n sz c e)
  | none => none
 | .map _ _ _ _ => none
theorem rnB_holds {ρ : Nat → Option Nat} {b b' : IB} (h : rnB ρ b = some b') : b'.holds = b.holds := by
 unfold rnB at h
 split at h
 ·
  split at h <;> cases h; rfl
 ·
  split at h <;> cases h; rfl
 ·
  cases h
section
variable {w : World} {H H' : Nat → Prop} {μ ν : Mu} {ρ : Nat → Option Nat}
def Rel (ρ : Nat → Option Nat) (μ ν : Mu) : Prop := ∀ k j x, ρ k = some j → μ k = some x → ν j = some x
theorem rn0_D (hρ : Rel ρ μ ν) {s t : SV} {v : Value} (h : rn0 ρ s = some t) (hd : D w H μ s v) : D w H' ν t v := by
 unfold rn0 at h
 split at h
 ·
  cases h; cases hd; exact .int
 ·
  cases h; cases hd; exact .bool
 ·
  cases h; cases hd; exact .con
 ·
  cases h; exact .any
 ·
  split at h <;> cases h
  rename_i j hj
  cases hd with
  | own h => exact .own (hρ _ _ _ hj h)
 ·
  split at h <;> cases h
  rename_i j hj
  cases hd with
  | osl h => exact .osl (hρ _ _ _ hj h)
 ·
  split at h <;> cases h
  rename_i j hj
  cases hd with
  | oel h => exact .oel (hρ _ _ _ hj h)
 ·
  cases h
theorem rn1_D (hρ : Rel ρ μ ν) {s t : SV} {v : Value} (h : rn1 ρ s = some t) (hd : D w H μ s v) : D w H' ν t v := by
 unfold rn1 at h
 split at h
 ·
  split at h <;> cases h
  rename_i cs' hcs
  obtain ⟨h1, h2⟩ := mapO_get hcs
  cases hd with
  | agg vs hl hd =>
   refine .agg vs (by omega) (fun i s v hs hv => ?_)
   obtain ⟨a, ha, e⟩ := h2 i s hs
   exact rn0_D hρ e (hd i a v ha hv)
 ·
  split at h <;> cases h
  rename_i cs' hcs
  obtain ⟨h1, h2⟩ := mapO_get hcs
  cases hd with
  | clo vs hl hd =>
   refine .clo vs (by omega) (fun i s v hs hv => ?_)
   obtain ⟨a, ha, e⟩ := h2 i s hs
   exact rn0_D hρ e (hd i a v ha hv)
 ·
  exact rn0_D hρ h hd
theorem rn2_D (hρ : Rel ρ μ ν) {s t : SV} {v : Value} (h : rn2 ρ s = some t) (hd : D w H μ s v) : D w H' ν t v := by
 unfold rn2 at h
 split at h
 ·
  split at h <;> cases h
  rename_i cs' hcs
  obtain ⟨h1, h2⟩ := mapO_get hcs
  cases hd with
  | tup vs hl hd =>
   refine .tup vs (by omega) (fun i s v hs hv => ?_)
   obtain ⟨a, ha, e⟩ := h2 i s hs
   exact rn1_D hρ e (hd i a v ha hv)
 ·
  exact rn1_D hρ h hd
theorem rnL_D (hρ : Rel ρ μ ν) {l m : List SV} {vs : List Value} (h : mapO (rn2 ρ) l = some m) (hd : DL w H μ l vs) : DL w H' ν m vs := by
 obtain ⟨h1, h2⟩ := mapO_get h
 refine ⟨by rw [h1]; exact hd.1, fun i s v hs hv => ?_⟩
 obtain ⟨a, ha, e⟩ := h2 i s hs
 exact rn2_D hρ e (hd.2 i a v ha hv)
theorem rnB_OK (hρ : Rel ρ μ ν) {k j : Nat} (hkj : ∀ x, μ k = some x → ν j = some x) {b b' : IB} (h : rnB ρ b = some b') (ok : IBOK w H μ k b) : IBOK w H ν j b' := by
 unfold rnB at h
 split at h
 ·
  split at h <;> cases h
  rename_i cs' hcs
  obtain ⟨h1, h2⟩ := mapO_get hcs
  obtain ⟨b, β, vs, e1, e2, e3, e4, e5⟩ := ok
  refine ⟨b, β, vs, hkj _ e1, e2, by omega, e4, fun i s v hs hv => ?_⟩
  obtain ⟨a, ha, e⟩ := h2 i s hs
  exact rn1_D hρ e (e5 i a v ha hv)
 ·
  split at h <;> cases h
  rename_i j' hj
  obtain ⟨a, mm, e1, e2, e3, e4, e5, e6, e7⟩ := ok
  refine ⟨a, mm, hkj _ e1, e2, e3, e4, e5, e6, fun hp => ?_⟩
  obtain ⟨b, β, f1, f2, rest⟩ := e7 hp
  exact ⟨b, β, f1, hρ _ _ _ hj f2, rest⟩
 ·
  cases h
end
def sub (ks : List Nat) (μ : Mu) : Mu := fun j => match ks[j]? with
 | some k => μ k
 | none => none
theorem sub_at {ks : List Nat} {μ : Mu} {j k : Nat} (h : ks[j]? = some k) : sub ks μ j = μ k := by simp [sub, h]
theorem sub_rel {ks : List Nat} {μ : Mu} {ρ : Nat → Option Nat} (hρ : ∀ k j, ρ k = some j → ks[j]? = some k) : Rel ρ μ (sub ks μ) := fun k j x hk hx => by rw [sub_at (hρ k j hk)]; exact hx
section
variable {glob : Nat → Option SV} {B0 : Nat} {w0 w : World} {h h2 : Hp} {μ : Mu} {ks : List Nat} {ρ : Nat → Option Nat}
structure Part (ρ : Nat → Option Nat) (ks : List Nat) (h h2 : Hp) : Prop where
 ren : ∀ k j, ρ k = some j → ks[j]? = some k
 one : ∀ (i j k : Nat), ks[i]? = some k → ks[j]? = some k → i = j
 ent : ∀ j b', h2.get j = some b' → ∃ k b, ks[j]? = some k ∧ h.get k = some b ∧ rnB ρ b = some b'
theorem Part.hd (p : Part ρ ks h h2) {b : Nat} (hb : Hd h2 (sub ks μ) b) : ∃ k, k ∈ ks ∧ ∃ bl x, h.get k = some bl ∧ bl.holds = true ∧ μ k = some x ∧ blkOf x = some b := by
 obtain ⟨j, b', x, e, hh, hx, hbx⟩ := hb
 obtain ⟨k, bl, hk, hg, hr⟩ := p.ent j b' e
 rw [sub_at hk] at hx
 exact ⟨k, List.mem_of_getElem? hk, bl, x, hg, by rw [← rnB_holds hr]; exact hh, hx, hbx⟩
theorem HI.part (hi : HI glob B0 w0 w h μ) (p : Part ρ ks h h2) : HI glob B0 w0 w h2 (sub ks μ) := by
 refine ⟨fun j b' e => ?_, fun j j' b b' x x' c e e' hh hh' hx hx' hc hc' => ?_, fun b hb => ?_, hi.fr, hi.base, hi.glo⟩
 ·
  obtain ⟨k, bl, hk, hg, hr⟩ := p.ent j b' e
  exact rnB_OK (sub_rel p.ren) (fun x hx => by rw [sub_at hk]; exact hx) hr (hi.blk k bl hg)
 ·
  obtain ⟨k, bl, hk, hg, hr⟩ := p.ent j b e
  obtain ⟨k', bl', hk', hg', hr'⟩ := p.ent j' b' e'
  rw [sub_at hk] at hx
  rw [sub_at hk'] at hx'
  have := hi.inj k k' bl bl' x x' c hg hg' (by rw [← rnB_holds hr]; exact hh) (by rw [← rnB_holds hr']; exact hh') hx hx' hc hc'
  subst this
  exact p.one _ _ _ hk hk'
 ·
  obtain ⟨k, _, bl, x, hg, hh, hx, hbx⟩ := p.hd hb
  exact hi.rng b ⟨k, bl, x, hg, hh, hx, hbx⟩
theorem call_less {P : Program} {f : FuncId} {args : List SV} {s s2 : SV} {h1 hr : Hp} {ls : List Nat} (hC : CallOK1 P glob B0 w0 f args h s h1) (p : Part ρ (List.range h.nx ++ ls) h1 hr) (hn : hr.nx = h.nx + ls.length) (hs : rn2 ρ s = some s2) : CallOK1 P glob B0 w0 f args h s2 hr := by
 refine ⟨hC.1, fun w μ vals hi hfr hD => (hC.2 w μ vals hi hfr hD).mono ?_⟩
 rintro e w' ⟨v, μ', rfl, g1, g2, g3⟩
 have hlow : ∀ k, k < h.nx → (List.range h.nx ++ ls)[k]? = some k := fun k hk => by rw [List.getElem?_append_left (by simpa using hk), List.getElem?_range hk]
 have hsub : ∀ k, k < h.nx → sub (List.range h.nx ++ ls) μ' k = μ k := fun k hk => by rw [sub_at (hlow k hk)]; exact g2.only k (.inl hk)
 have hout : ∀ k, hr.nx ≤ k → (List.range h.nx ++ ls)[k]? = none := fun k hk => by
  rw [List.getElem?_eq_none_iff]; simp; omega
 refine ⟨v, sub (List.range h.nx ++ ls) μ', rfl, g1.part p, ⟨fun k x hk => ?_, g2.size, g2.block, fun b hb hh => ?_, g2.low, g2.sizes, by omega, fun k hk => ?_, fun k hk hno => ?_⟩, rn2_D (sub_rel p.ren) hs g3⟩
 ·
  rcases Nat.lt_or_ge k h.nx with hlt | hge
  ·
   rw [hsub k hlt]; exact hk
  ·
   rw [hfr k hge] at hk; cases hk
 ·
  obtain ⟨k, _, bl, x, hg, hh, hx, hbx⟩ := p.hd hh
  exact g2.less b hb ⟨k, bl, x, hg, hh, hx, hbx⟩
 ·
  rcases hk with hk | hk
  ·
   exact hsub k hk
  ·
   rw [hfr k (by omega)]
   simp [sub, hout k hk]
 ·
  cases hg : hr.get k with
  | none => rfl
  | some b' =>
   obtain ⟨k', b, hk', hg', _⟩ := p.ent k b' hg
   rcases hk with hk | hk
   ·
    rw [hlow k hk] at hk'
    cases hk'
    rw [g2.dom k (.inl hk) hno] at hg'
    cases hg'
   ·
    rw [hout k hk] at hk'; cases hk'
def Pos (ks : List Nat) (n m j k : Nat) : Prop := (j < ks.length ∧ ks[j]? = some k) ∨ (ks.length ≤ j ∧ j < m ∧ k = n + (j - ks.length))
theorem call_frame {P : Program} {f : FuncId} {args args' : List SV} {s s2 : SV} {hc hr h' : Hp} {σ : Nat → Option Nat} (hC : CallOK1 P glob B0 w0 f args' hc s2 hr) (p : Part ρ ks h hc) (hn : hc.nx = ks.length) (ha : mapO (rn2 ρ) args = some args') (hks : ∀ k ∈ ks, k < h.nx ∧ h.get k ≠ none)
  (hσ : ∀ j k, σ j = some k → Pos ks h.nx hr.nx j k) (hn' : h'.nx = h.nx + (hr.nx - ks.length)) (hm : ks.length ≤ hr.nx)
  (hent : ∀ k b, h'.get k = some b → (∃ j b0, Pos ks h.nx hr.nx j k ∧ hr.get j = some b0 ∧ rnB σ b0 = some b) ∨ (k ∉ ks ∧ h.get k = some b)) (hs : rn2 σ s2 = some s) : CallOK1 P glob B0 w0 f args h s h' := by
 refine ⟨hC.1, fun w μ vals hi hfr hD => ?_⟩
 replace hent : ∀ k b, h'.get k = some b → (∃ j b0, Pos ks h.nx hr.nx j k ∧ hr.get j = some b0 ∧ rnB σ b0 = some b) ∨ (k ∉ ks ∧ k < h.nx ∧ h.get k = some b) := by
  intro k b hk
  rcases hent k b hk with h1 | ⟨h1, h2⟩
  ·
   exact .inl h1
  ·
   refine .inr ⟨h1, ?_, h2⟩
   rcases Nat.lt_or_ge k h.nx with hlt | hge
   ·
    exact hlt
   ·
    obtain ⟨x, hx⟩ := (hi.blk k b h2).mu
    rw [hfr k hge] at hx; cases hx
 have hfc : Fresh hc (sub ks μ) := fun j hj => by
  have : ks[j]? = none := by rw [List.getElem?_eq_none_iff]; omega
  simp [sub, this]
 refine (hC.2 w (sub ks μ) vals (hi.part p) hfc (rnL_D (sub_rel p.ren) ha hD)).mono ?_
 rintro e w' ⟨v, μ', rfl, g1, g2, g3⟩
 obtain ⟨μ2, hμ2⟩ : ∃ μ2 : Mu, ∀ k, μ2 k = if k < h.nx then μ k else if k < h'.nx then μ' (ks.length + (k - h.nx)) else none := ⟨_, fun _ => rfl⟩
 have lowμ : ∀ k, k < h.nx → μ2 k = μ k := fun k hk => by rw [hμ2, if_pos hk]
 have oldμ : ∀ j k, ks[j]? = some k → μ' j = μ k := fun j k hk => by
  have hj : j < ks.length := (List.getElem?_eq_some_iff.1 hk).1
  rw [g2.only j (.inl (by omega)), sub_at hk]
 have relμ : ∀ j k, Pos ks h.nx hr.nx j k → μ2 k = μ' j := fun j k hk => by
  rcases hk with ⟨h1, h2⟩ | ⟨h1, h2, rfl⟩
  ·
   rw [lowμ k (hks k (List.mem_of_getElem? h2)).1, oldμ j k h2]
  ·
   rw [hμ2, if_neg (by omega), if_pos (by omega)]
   congr 1; omega
 have hrel : Rel σ μ' μ2 := fun j k x hk hx => by rw [relμ j k (hσ j k hk)]; exact hx
 have hheld : ∀ b, Hd hc (sub ks μ) b → Hd h μ b := fun b hb => by
  obtain ⟨k, _, bl, x, r⟩ := p.hd hb
  exact ⟨k, bl, x, r⟩
 have hHd : ∀ b, Hd h' μ2 b → Hd hr μ' b ∨ ∃ k bl x, k ∉ ks ∧ k < h.nx ∧ h.get k = some bl ∧ bl.holds = true ∧ μ k = some x ∧ blkOf x = some b := by
  rintro b ⟨k, bl, x, e, hh, hx, hbx⟩
  rcases hent k bl e with ⟨j, b0, h1, h2, h3⟩ | ⟨h1, h2, h3⟩
  ·
   left
   rw [relμ j k h1] at hx
   exact ⟨j, b0, x, h2, by rw [← rnB_holds h3]; exact hh, hx, hbx⟩
  ·
   right
   rw [lowμ k h2] at hx
   exact ⟨k, bl, x, h1, h2, h3, hh, hx, hbx⟩
 have hmv : Mv B0 w w' h h' μ μ2 := by
  refine ⟨fun k x hk => ?_, g2.size, fun b hb hno => g2.block b hb (fun hh => hno (hheld b hh)), fun b hb hh => ?_, g2.low, g2.sizes, by omega, fun k hk => ?_, fun k hk hno => ?_⟩
  ·
   rcases Nat.lt_or_ge k h.nx with hlt | hge
   ·
    rw [lowμ k hlt]; exact hk
   ·
    rw [hfr k hge] at hk; cases hk
  ·
   rcases hHd b hh with h1 | ⟨k, bl, x, _, _, h3, h4, h5, h6⟩
   ·
    exact hheld b (g2.less b hb h1)
   ·
    exact ⟨k, bl, x, h3, h4, h5, h6⟩
  ·
   rcases hk with hk | hk
   ·
    exact lowμ k hk
   ·
    rw [hμ2, if_neg (by omega), if_neg (by omega), hfr k (by omega)]
  ·
   cases hg : h'.get k with
   | none => rfl
   | some b =>
    rcases hent k b hg with ⟨j, b0, h1, h2, h3⟩ | ⟨h1, h2, h3⟩
    ·
     rcases h1 with ⟨_, q2⟩ | ⟨q1, q2, rfl⟩
     ·
      exact absurd hno (hks k (List.mem_of_getElem? q2)).2
     ·
      omega
    ·
     rw [hno] at h3; cases h3
 have mixed : ∀ b k1 k2 b2 x2, Hd hr μ' b → k2 ∉ ks → h.get k2 = some b2 → b2.holds = true → μ k2 = some x2 → blkOf x2 = some b → k1 = k2 := by
  intro b k1 k2 b2 x2 hb hno hg hh hx hbx
  have hlt := (hi.rng b ⟨k2, b2, x2, hg, hh, hx, hbx⟩).2
  obtain ⟨k, hk, bl, x, e1, e2, e3, e4⟩ := p.hd (g2.less b hlt hb)
  have := hi.inj k k2 bl b2 x x2 b e1 hg e2 hh e3 hx e4 hbx
  subst this
  exact absurd hk hno
 refine ⟨v, μ2, rfl, ⟨fun k b e => ?_, fun k k' b b' x x' c e e' hh hh' hx hx' hc hc' => ?_, fun b hb => ?_, g1.fr, g1.base, g1.glo⟩, hmv, rn2_D hrel hs g3⟩
 ·
  rcases hent k b e with ⟨j, b0, h1, h2, h3⟩ | ⟨h1, h2, h3⟩
  ·
   exact rnB_OK hrel (fun x hx => by rw [relμ j k h1]; exact hx) h3 (g1.blk j b0 h2)
  ·
   refine (hi.blk k b h3).mv hmv (fun hh x c hx hc => ?_)
   have hlt := (hi.rng c ⟨k, b, x, h3, hh, hx, hc⟩).2
   refine g2.block c hlt (fun hd => ?_)
   obtain ⟨k', hk', bl, x', e1, e2, e3, e4⟩ := p.hd hd
   have := hi.inj k' k bl b x' x c e1 h3 e2 hh e3 hx e4 hc
   subst this
   exact h1 hk'
 ·
  rcases hent k b e with ⟨j, b0, h1, h2, h3⟩ | ⟨h1, h2, h3⟩ <;> rcases hent k' b' e' with ⟨j', b0', h1', h2', h3'⟩ | ⟨h1', h2', h3'⟩
  ·
   rw [relμ j k h1] at hx
   rw [relμ j' k' h1'] at hx'
   have := g1.inj j j' b0 b0' x x' c h2 h2' (by rw [← rnB_holds h3]; exact hh) (by rw [← rnB_holds h3']; exact hh') hx hx' hc hc'
   subst this
   rcases h1 with ⟨a1, a2⟩ | ⟨a1, a2, rfl⟩ <;> rcases h1' with ⟨c1, c2⟩ | ⟨c1, c2, rfl⟩
   ·
    rw [a2] at c2; exact Option.some.inj c2
   ·
    omega
   ·
    omega
   ·
    rfl
  ·
   rw [relμ j k h1] at hx
   rw [lowμ k' h2'] at hx'
   exact mixed c k k' b' x' ⟨j, b0, x, h2, by rw [← rnB_holds h3]; exact hh, hx, hc⟩ h1' h3' hh' hx' hc'
  ·
   rw [relμ j' k' h1'] at hx'
   rw [lowμ k h2] at hx
   exact (mixed c k' k b x ⟨j', b0', x', h2', by rw [← rnB_holds h3']; exact hh', hx', hc'⟩ h1 h3 hh hx hc).symm
  ·
   rw [lowμ k h2] at hx
   rw [lowμ k' h2'] at hx'
   exact hi.inj k k' b b' x x' c h3 h3' hh hh' hx hx' hc hc'
 ·
  rcases hHd b hb with h1 | ⟨k, bl, x, _, _, h3, h4, h5, h6⟩
  ·
   exact g1.rng b h1
  ·
   have := hi.rng b ⟨k, bl, x, h3, h4, h5, h6⟩
   exact ⟨this.1, Nat.lt_of_lt_of_le this.2 g2.size⟩
end
theorem blt_lt {a b : Nat} (h : Nat.blt a b = true) : a < b := by rwa [Nat.blt_eq] at h
noncomputable def fcNt {α : Type} (n : Nat) (K : Nat → α) : α := Nat.rec (motive := fun _ => (Nat → α) → α) (fun K => K 0) (fun m _ K => K (Nat.succ m)) n K
theorem fcNt_eq {α : Type} (n : Nat) (K : Nat → α) : fcNt n K = K n := by cases n <;> rfl
noncomputable def enumN {α : Type} : List α → Nat → List (Nat × α)
 | [], _ => []
 | a :: r, j => (j, a) :: fcNt (Nat.succ j) fun j => enumN r j
theorem enumN_cons {α : Type} (a : α) (r : List α) (j : Nat) : enumN (a :: r) j = (j, a) :: enumN r (j + 1) := by simp only [enumN, fcNt_eq]
theorem enumN_mem {α : Type} : ∀ {l : List α} {j : Nat} {p : Nat × α}, p ∈ enumN l j → ∃ i, p.1 = j + i ∧ l[i]? = some p.2
 | [], j, p, h => by cases h
 | a :: r, j, p, h => by
  rw [enumN_cons] at h
  rcases List.mem_cons.1 h with h | h
  ·
   subst h; exact ⟨0, rfl, rfl⟩
  ·
   obtain ⟨i, h1, h2⟩ := enumN_mem h
   exact ⟨i + 1, by omega, by simpa using h2⟩
theorem mem_enumN {α : Type} : ∀ {l : List α} {j i : Nat} {a : α}, l[i]? = some a → (j + i, a) ∈ enumN l j
 | [], j, i, a, h => by simp at h
 | b :: r, j, 0, a, h => by
  simp at h; subst h
  rw [enumN_cons]; simp
 | b :: r, j, i + 1, a, h => by
  rw [enumN_cons]
  have := mem_enumN (j := j + 1) (show r[i]? = some a by simpa using h)
  rw [show j + 1 + i = j + (i + 1) from by omega] at this
  exact List.mem_cons_of_mem _ this
noncomputable def nums : Nat → Nat → List Nat
 | _, 0 => []
 | n, q + 1 => n :: fcNt (Nat.succ n) fun n => nums n q
theorem nums_eq : ∀ (q n : Nat), nums n q = (List.range q).map (n + ·)
 | 0, n => rfl
 | q + 1, n => by
  simp only [nums, fcNt_eq]
  rw [nums_eq q (Nat.succ n), List.range_succ_eq_map]
  simp only [List.map_cons, List.map_map, Nat.add_zero]
  congr 1
  apply List.map_congr_left
  intro a _
  simp only [Function.comp]; omega
theorem nums_zero (q : Nat) : nums 0 q = List.range q := by rw [nums_eq]; simp
theorem nums_get {n q i k : Nat} (h : (nums n q)[i]? = some k) : i < q ∧ k = n + i := by
 rw [nums_eq, List.getElem?_map, Option.map_eq_some_iff] at h
 obtain ⟨a, ha, rfl⟩ := h
 have hlt := (List.getElem?_eq_some_iff.1 ha).1
 simp at hlt
 rw [List.getElem?_range hlt] at ha
 cases ha
 exact ⟨hlt, rfl⟩
theorem nums_len (n q : Nat) : (nums n q).length = q := by rw [nums_eq]; simp
def putsO {α : Type} : List (Nat × Option α) → Tr α → Tr α
 | [], t => t
 | p :: r, t => Tr.setK 20 t p.1 p.2 fun t => putsO r t
theorem lim_lt {k : Nat} (h : k < lim) : k + 1 < 2 ^ 20 := by simp only [lim] at h; omega
theorem putsO_get {α : Type} : ∀ {l : List (Nat × Option α)} {t : Tr α} {k : Nat} {a : α}, (∀ p ∈ l, p.1 < lim) → (putsO l t).get k = some a → (k, some a) ∈ l ∨ ((∀ p ∈ l, p.1 ≠ k) ∧ t.get k = some a)
 | [], t, k, a, _, h => .inr ⟨by simp, h⟩
 | p :: r, t, k, a, hl, h => by
  simp only [putsO, Tr.setK_eq] at h
  rcases putsO_get (fun q hq => hl q (by simp [hq])) h with h | ⟨h1, h2⟩
  ·
   exact .inl (by simp [h])
  ·
   rw [Tr.get_set _ _ _ _ _ (lim_lt (hl p (by simp)))] at h2
   split at h2
   ·
    rename_i e
    left
    subst e
    obtain ⟨k, o⟩ := p
    simp only at h2
    subst h2
    simp
   ·
    rename_i e
    right
    refine ⟨fun q hq => ?_, h2⟩
    rcases List.mem_cons.1 hq with rfl | hq
    ·
     exact fun e2 => e e2.symm
    ·
     exact h1 q hq
theorem putsO_enum {α : Type} : ∀ {l : List (Option α)} {j : Nat} {t : Tr α} {k : Nat}, j + l.length ≤ lim → (putsO (enumN l j) t).get k = if j ≤ k ∧ k < j + l.length then l[k - j]?.join else t.get k
 | [], j, t, k, _ => by rw [if_neg (by simp)]; rfl
 | a :: r, j, t, k, hl => by
  simp only [List.length_cons] at hl ⊢
  rw [enumN_cons]
  simp only [putsO, Tr.setK_eq]
  rw [putsO_enum (by omega), Tr.get_set _ _ _ _ _ (lim_lt (by omega))]
  by_cases e : k = j
  ·
   subst e
   rw [if_neg (by omega), if_pos rfl, if_pos (by omega)]
   simp
  ·
   rw [if_neg e]
   by_cases e2 : j + 1 ≤ k ∧ k < j + 1 + r.length
   ·
    rw [if_pos e2, if_pos (by omega), show k - j = (k - (j + 1)) + 1 from by omega]
    rfl
   ·
    rw [if_neg e2, if_neg (by omega)]
noncomputable def hpOf (l : List (Option IB)) : Hp := ⟨putsO (enumN l 0) .lf, l.length⟩
theorem hpOf_get {l : List (Option IB)} (hl : l.length ≤ lim) {k : Nat} {b : IB} : (hpOf l).get k = some b ↔ l[k]? = some (some b) := by
 show (putsO (enumN l 0) .lf).get k = some b ↔ _
 rw [putsO_enum (by omega)]
 split
 ·
  rename_i h
  simp only [Nat.sub_zero]
  cases hk : l[k]? with
  | none => simp
  | some o => simp
 ·
  rename_i h
  have : l[k]? = none := by rw [List.getElem?_eq_none_iff]; omega
  rw [this]
  simp [Tr.get]
def refs0 : SV → List Nat → List Nat
 | .own k _, l => k :: l
 | .osl k, l => k :: l
 | .oel k _ _ _, l => k :: l
 | _, l => l
def refsL0 : List SV → List Nat → List Nat
 | [], l => l
 | s :: r, l => refs0 s (refsL0 r l)
def refs1 : SV → List Nat → List Nat
 | .agg cs, l => refsL0 cs l
 | .clo _ cs, l => refsL0 cs l
 | s, l => refs0 s l
def refsL1 : List SV → List Nat → List Nat
 | [], l => l
 | s :: r, l => refs1 s (refsL1 r l)
def refs2 : SV → List Nat → List Nat
 | .tup cs, l => refsL1 cs l
 | s, l => refs1 s l
def refsB : IB → List Nat → List Nat
 | .cells _ cs, l => refsL1 cs l
 | .hd j _ _ _ _ _, l => j :: l
 | _, l => l
def reach (h : Tr IB) : Nat → List Nat → Tr Unit → List Nat → List Nat
 | 0, _, _, acc => acc
 | _ + 1, [], _, acc => acc
 | f + 1, k :: r, seen, acc => match seen.get k with
  | some _ => reach h f r seen acc
  | none => match h.get k with
   | some b => Tr.setK 20 seen k (some ()) fun seen => reach h f (refsB b r) seen (k :: acc)
   | none => reach h f r seen acc
noncomputable def idxT (ks : List Nat) : Tr Nat := putsO ((enumN ks 0).map fun p => (p.2, some p.1)) .lf
noncomputable def chkK (ks : List Nat) (idx : Tr Nat) : Bool := (enumN ks 0).all fun p => match idx.get p.2 with
 | some j => Nat.beq j p.1
 | none => false
def allLt (n : Nat) (ks : List Nat) : Bool := ks.all fun k => Nat.blt k n
theorem idxT_get {ks : List Nat} (hl : allLt lim ks = true) {k j : Nat} (h : (idxT ks).get k = some j) : ks[j]? = some k := by
 have hb : ∀ p ∈ (enumN ks 0).map (fun p => (p.2, some p.1)), p.1 < lim := by
  intro p hp
  obtain ⟨q, hq, rfl⟩ := List.mem_map.1 hp
  obtain ⟨i, _, h2⟩ := enumN_mem hq
  have := List.all_eq_true.1 hl q.2 (List.mem_of_getElem? h2)
  exact blt_lt this
 rcases putsO_get hb h with h | ⟨_, h⟩
 ·
  obtain ⟨q, hq, e⟩ := List.mem_map.1 h
  simp only [Prod.mk.injEq, Option.some.injEq] at e
  obtain ⟨i, h1, h2⟩ := enumN_mem hq
  rw [← e.1, ← h2, ← e.2, h1, Nat.zero_add]
 ·
  cases h
theorem chkK_one {ks : List Nat} {idx : Tr Nat} (h : chkK ks idx = true) (i j k : Nat) (hi : ks[i]? = some k) (hj : ks[j]? = some k) : i = j := by
 have key : ∀ {i : Nat}, ks[i]? = some k → idx.get k = some i := by
  intro i hi
  have := List.all_eq_true.1 h _ (mem_enumN (j := 0) hi)
  simp only at this
  split at this
  ·
   rename_i j hj
   have e := Nat.eq_of_beq_eq_true this
   rw [hj, e, Nat.zero_add]
  ·
   cases this
 have h1 := key hi
 rw [key hj] at h1
 exact (Option.some.inj h1).symm
abbrev GF := List SV → List IB → Option (SV × List (Option IB) × List IB)
def GOK (P : Program) (glob : Nat → Option SV) (f : Nat) (g : GF) : Prop := ∀ args es s olds news, g args es = some (s, olds, news) → olds.length = es.length ∧ ∀ B0 w0, CallOK1 P glob B0 w0 f args (hpOf (es.map some)) s (hpOf (olds ++ news.map some))
def entI (h : Tr IB) (ρ : Nat → Option Nat) (k : Nat) : Option IB := match h.get k with
 | some b => rnB ρ b
 | none => none
noncomputable def canon2 (ks : List Nat) (args : List SV) (h : Tr IB) (n : Nat) : Option (List Nat × List SV × List IB) := match allLt lim ks && allLt n ks && chkK ks (idxT ks) with
 | true => match mapO (rn2 (idxT ks).get) args, mapO (entI h (idxT ks).get) ks with
  | some a, some es => some (ks, a, es)
  | _, _ => none
 | false => none
noncomputable def canonI (args : List SV) (h : Tr IB) (n : Nat) : Option (List Nat × List SV × List IB) := canon2 (reach h 100000 (refsL1 args []) .lf []) args h n
def backE (ρ : Nat → Option Nat) (p : Nat × Option IB) : Option (Nat × Option IB) := match p.2 with
 | none => some (p.1, none)
 | some b => match rnB ρ b with
  | some b => some (p.1, some b)
  | none => none
noncomputable def back2 (ks : List Nat) (sg : Tr Nat) (s : SV) (olds : List (Option IB)) (news : List IB) (h : Tr IB) (n : Nat) : Option (SV × Tr IB × Nat) := match decide (n + news.length < lim) && decide (ks.length + news.length < lim), mapO (backE sg.get) (ks.zip olds), mapO (backE sg.get) ((enumN news n).map fun p => (p.1, some p.2)), rn2 sg.get s with
 | true, some l1, some l2, some s => some (s, putsO (l1 ++ l2) h, n + news.length)
 | _, _, _, _ => none
noncomputable def backI (ks : List Nat) (s : SV) (olds : List (Option IB)) (news : List IB) (h : Tr IB) (n : Nat) : Option (SV × Tr IB × Nat) := back2 ks (putsO (enumN ((ks ++ nums n news.length).map some) 0) .lf) s olds news h n
noncomputable def frameI (g : GF) (args : List SV) (h : Tr IB) (n : Nat) : Option (SV × Tr IB × Nat) := match canonI args h n with
 | some (ks, a, es) => match g a es with
  | some (s, olds, news) => backI ks s olds news h n
  | none => none
 | none => none
theorem frame_sound {P : Program} {glob : Nat → Option SV} {B0 : Nat} {w0 : World} {f : Nat} {g : GF} (hg : GOK P glob f g) {args : List SV} {h : Hp} {s : SV} {t : Tr IB} {n : Nat} (he : frameI g args h.t h.nx = some (s, t, n)) : CallOK1 P glob B0 w0 f args h s ⟨t, n⟩ := by
 unfold frameI at he
 split at he
 rotate_left
 ·
  cases he
 rename_i ks a es hc
 split at he
 rotate_left
 ·
  cases he
 rename_i s2 olds news hgr
 obtain ⟨hol, hC⟩ := hg _ _ _ _ _ hgr
 unfold canonI at hc
 generalize reach h.t 100000 (refsL1 args []) .lf [] = ks0 at hc
 unfold canon2 at hc
 split at hc
 rotate_left
 ·
  cases hc
 rename_i hchk
 split at hc
 rotate_left
 ·
  cases hc
 rename_i a' es' ha hes
 cases hc
 simp only [Bool.and_eq_true] at hchk
 obtain ⟨⟨hk1, hk2⟩, hk3⟩ := hchk
 obtain ⟨el, eg⟩ := mapO_get hes
 unfold backI at he
 obtain ⟨sg, hsg⟩ : ∃ sg, putsO (enumN ((ks ++ nums h.nx news.length).map some) 0) .lf = sg := ⟨_, rfl⟩
 rw [hsg] at he
 unfold back2 at he
 split at he
 rotate_left
 ·
  cases he
 rename_i l1 l2 s' hb hl1 hl2 hs
 cases he
 simp only [Bool.and_eq_true, decide_eq_true_eq] at hb
 obtain ⟨hb1, hb2⟩ := hb
 have hkl : ∀ k ∈ ks, k < lim := fun k hk => blt_lt (List.all_eq_true.1 hk1 k hk)
 have hkn : ∀ k ∈ ks, k < h.nx := fun k hk => blt_lt (List.all_eq_true.1 hk2 k hk)
 have hlen : (es.map some).length = ks.length := by simp [el]
 have hlr : (olds ++ news.map some).length = ks.length + news.length := by simp [hol, el]
 have hpart : Part (idxT ks).get ks h (hpOf (es.map some)) := by
  refine ⟨fun k j hk => idxT_get hk1 hk, chkK_one hk3, fun j b' hj => ?_⟩
  rw [hpOf_get (by rw [hlen]; omega)] at hj
  rw [List.getElem?_map, Option.map_eq_some_iff] at hj
  obtain ⟨b2, hj, e⟩ := hj
  cases e
  obtain ⟨k, hk, hent⟩ := eg j _ hj
  unfold entI at hent
  split at hent
  ·
   rename_i b hb
   exact ⟨k, b, hk, hb, hent⟩
  ·
   cases hent
 have hsgp : ∀ j k, sg.get j = some k → Pos ks h.nx (hpOf (olds ++ news.map some)).nx j k := by
  intro j k hj
  rw [← hsg, putsO_enum (by simp [nums_len]; omega)] at hj
  split at hj
  rotate_left
  ·
   simp [Tr.get] at hj
  rename_i hr
  simp only [Nat.sub_zero] at hj
  rw [List.getElem?_map] at hj
  have hj' : (ks ++ nums h.nx news.length)[j]? = some k := by
   cases hx : (ks ++ nums h.nx news.length)[j]? with
   | none => rw [hx] at hj; simp at hj
   | some z => rw [hx] at hj; simp at hj; rw [hj]
  by_cases hlt : j < ks.length
  ·
   rw [List.getElem?_append_left hlt] at hj'
   exact .inl ⟨hlt, hj'⟩
  ·
   rw [List.getElem?_append_right (by omega)] at hj'
   obtain ⟨h1, h2⟩ := nums_get hj'
   exact .inr ⟨by omega, by show j < (olds ++ news.map some).length; rw [hlr]; omega, h2⟩
 obtain ⟨_, g1⟩ := mapO_get hl1
 obtain ⟨_, g2⟩ := mapO_get hl2
 have bk : ∀ {p q : Nat × Option IB}, backE sg.get p = some q → q.1 = p.1 ∧ ∀ b, q.2 = some b → ∃ b0, p.2 = some b0 ∧ rnB sg.get b0 = some b := by
  intro p q hq
  unfold backE at hq
  split at hq
  ·
   cases hq; exact ⟨rfl, fun b hb => by cases hb⟩
  ·
   rename_i b0 hb0
   split at hq
   ·
    rename_i b hb
    cases hq
    exact ⟨rfl, fun b' hb' => by cases hb'; exact ⟨b0, hb0, hb⟩⟩
   ·
    cases hq
 have m1 : ∀ q ∈ l1, ∃ i : Nat, ks[i]? = some q.1 ∧ ∀ b, q.2 = some b → ∃ b0, olds[i]? = some (some b0) ∧ rnB sg.get b0 = some b := by
  intro q hq
  obtain ⟨i, hi⟩ := List.mem_iff_getElem?.1 hq
  obtain ⟨p, hp, e⟩ := g1 i q hi
  obtain ⟨e1, e2⟩ := bk e
  rw [List.getElem?_zip_eq_some] at hp
  refine ⟨i, by rw [e1]; exact hp.1, fun b hb => ?_⟩
  obtain ⟨b0, h1, h2⟩ := e2 b hb
  exact ⟨b0, by rw [hp.2, h1], h2⟩
 have m2 : ∀ q ∈ l2, ∃ i : Nat, q.1 = h.nx + i ∧ i < news.length ∧ ∀ b, q.2 = some b → ∃ b0, news[i]? = some b0 ∧ rnB sg.get b0 = some b := by
  intro q hq
  obtain ⟨i, hi⟩ := List.mem_iff_getElem?.1 hq
  obtain ⟨p, hp, e⟩ := g2 i q hi
  obtain ⟨e1, e2⟩ := bk e
  rw [List.getElem?_map, Option.map_eq_some_iff] at hp
  obtain ⟨r, hr, rfl⟩ := hp
  obtain ⟨i', h1, h2⟩ := enumN_mem (List.mem_of_getElem? hr)
  refine ⟨i', by rw [e1]; exact h1, (List.getElem?_eq_some_iff.1 h2).1, fun b hb => ?_⟩
  obtain ⟨b0, h3, h4⟩ := e2 b hb
  cases h3
  exact ⟨_, h2, h4⟩
 refine call_frame (hC B0 w0) hpart hlen ha (fun k hk => ⟨hkn k hk, fun hno => ?_⟩) hsgp ?_ ?_ (fun k b hgk => ?_) hs
 ·
  obtain ⟨j, hj⟩ := List.mem_iff_getElem?.1 hk
  have hjl : j < es.length := by rw [el]; exact (List.getElem?_eq_some_iff.1 hj).1
  obtain ⟨k', hk', hent⟩ := eg j _ (List.getElem?_eq_getElem hjl)
  rw [hj] at hk'
  cases hk'
  unfold entI at hent
  have hno' : h.t.get k = none := hno
  rw [hno'] at hent
  cases hent
 ·
  show h.nx + news.length = h.nx + ((olds ++ news.map some).length - ks.length)
  rw [hlr]; omega
 ·
  show ks.length ≤ (olds ++ news.map some).length
  rw [hlr]; omega
 ·
  have hgk' : (putsO (l1 ++ l2) h.t).get k = some b := hgk
  have hbd : ∀ q ∈ l1 ++ l2, q.1 < lim := by
   intro q hq
   rcases List.mem_append.1 hq with hq | hq
   ·
    obtain ⟨i, hi, _⟩ := m1 _ hq
    exact hkl _ (List.mem_of_getElem? hi)
   ·
    obtain ⟨i, hi, hil, _⟩ := m2 _ hq
    omega
  rcases putsO_get hbd hgk' with hm | ⟨hno, hh⟩
  ·
   left
   rcases List.mem_append.1 hm with hm | hm
   ·
    obtain ⟨i, hi, hb'⟩ := m1 _ hm
    obtain ⟨b0, hb0, hr0⟩ := hb' b rfl
    have hil : i < ks.length := (List.getElem?_eq_some_iff.1 hi).1
    refine ⟨i, b0, .inl ⟨hil, hi⟩, ?_, hr0⟩
    rw [hpOf_get (by rw [hlr]; omega), List.getElem?_append_left (by omega)]
    exact hb0
   ·
    obtain ⟨i, hi, hil, hb'⟩ := m2 _ hm
    obtain ⟨b0, hb0, hr0⟩ := hb' b rfl
    refine ⟨ks.length + i, b0, .inr ⟨by omega, by show ks.length + i < (olds ++ news.map some).length; rw [hlr]; omega, by simp at hi; omega⟩, ?_, hr0⟩
    rw [hpOf_get (by rw [hlr]; omega), List.getElem?_append_right (by omega), List.getElem?_map, show ks.length + i - olds.length = i from by omega, hb0]
    rfl
  ·
   right
   have hkno : k ∉ ks := by
    intro hk
    obtain ⟨i, hi⟩ := List.mem_iff_getElem?.1 hk
    have hil : i < ks.length := (List.getElem?_eq_some_iff.1 hi).1
    have hl1len : l1.length = ks.length := by
     rw [(mapO_get hl1).1]; simp [hol, el]
    obtain ⟨p, hp, e⟩ := g1 i _ (List.getElem?_eq_getElem (show i < l1.length by omega))
    rw [List.getElem?_zip_eq_some] at hp
    have e1 := (bk e).1
    rw [hi] at hp
    have e2 := Option.some.inj hp.1
    exact hno _ (List.mem_append_left _ (List.getElem_mem (show i < l1.length by omega))) (by rw [e1, ← e2])
   exact ⟨hkno, hh⟩
inductive XR where
 | tmp (x : XO)
 | cell (m : Nat) (ag : Bool) (x : XO)
inductive RS where
 | one (r : XR)
 | many (rs : List XR)
noncomputable def rTmp (x : XO) (T : Tr SV) (_ : Tr IB) (K : SV → JR) : JR := rdX x [] T K
noncomputable def rCell (m : Nat) (ag : Bool) (x : XO) (T : Tr SV) (h : Tr IB) (K : SV → JR) : JR := rdX x [] T fun p => ldJ m ag h p K
noncomputable def resJ1 (r : XR) : Tr SV → Tr IB → (SV → JR) → JR := XR.rec (motive := fun _ => Tr SV → Tr IB → (SV → JR) → JR) rTmp rCell r
noncomputable def resJL (rs : List XR) (T : Tr SV) (h : Tr IB) (K : List SV → JR) : JR := List.rec (motive := fun _ => Tr SV → Tr IB → (List SV → JR) → JR) (fun _ _ K => K []) (fun r _ ih T h K => resJ1 r T h fun s => ih T h fun l => K (s :: l)) rs T h K
noncomputable def resJ (rs : RS) : Tr SV → Tr IB → (SV → JR) → JR := RS.rec (motive := fun _ => Tr SV → Tr IB → (SV → JR) → JR) resJ1 (fun rs T h K => resJL rs T h fun l => K (.tup l)) rs
def compR1 (P : Program) (K : Nat) : ResultVar → Option XR
 | .tmp t => match xoC K [] (.tmp t) with
  | some x => some (.tmp x)
  | none => none
 | .cell t U => match xoC K [] (.tmp t), sizeB P U, isAggB P U with
  | some x, some m, some ag => some (.cell m ag x)
  | _, _, _ => none
def compRL (P : Program) (K : Nat) : List ResultVar → Option (List XR)
 | [] => some []
 | r :: l => match compR1 P K r, compRL P K l with
  | some a, some asq => some (a :: asq)
  | _, _ => none
def compRS (P : Program) (K : Nat) (rs : List ResultVar) : Option RS := match rs with
 | [r] => match compR1 P K r with
  | some a => some (.one a)
  | none => none
 | rs => match compRL P K rs with
  | some asq => some (.many asq)
  | none => none
noncomputable def initJ (args : List SV) (n : Nat) (T : Tr SV) (K nt : Nat) (F : Tr SV → JR) : JR := List.rec (motive := fun _ => Nat → Tr SV → Nat → Nat → (Tr SV → JR) → JR) (fun n T _ nt F => bB (Nat.ble n nt) (F T) .bad)
 (fun s _ ih n T K nt F => bB (kbit K n) (setT 14 T n (some s) fun T => ih (Nat.succ n) T K nt F) .bad) args n T K nt F
noncomputable def endC (r : JR) (K : Tr SV → Tr IB → Nat → JR) : JR := JR.rec (motive := fun _ => (Tr SV → Tr IB → Nat → JR) → JR) (fun _ => .bad) (fun q _ T h m K => Out.rec (motive := fun _ => Tr SV → Tr IB → Nat → (Tr SV → Tr IB → Nat → JR) → JR) (fun T h m K => K T h m) (fun _ _ _ _ _ => .bad) (fun T h m K => K T h m) q T h m K) r K
noncomputable def bodyJ (K nt : Nat) (rs : RS) (c : CJ) (E : Env) (cj : CallJ) (lm : Nat) (args : List SV) (h : Tr IB) (n : Nat) : JR := initJ args 0 .lf K nt fun T => endC (exC c E cj lm T h n) fun T h n => resJ rs T h fun s => .ok .n s .lf h n
inductive FnC where
 | mk (K nt : Nat) (rs : RS) (c : CJ)
inductive FJ where
 | con (k : List SV → Option SV)
 | fn (c : FnC)
 | hc (T : TypeId) (sz : Nat) (k : List SV → Option (Nat × List SV))
 | mg (g : GF)
def compF (P : Program) (x : FnI) : Option FnC := match compC P x.K x.nt x.code, compRS P x.K x.rs, decide (x.nt < 16000) with
 | some c, some rs, true => some (.mk x.K x.nt rs c)
 | _, _, _ => none
abbrev FX := Env → CallJ → Nat → List SV → Tr IB → Nat → JR
noncomputable def fcJ (c : FnC) : FX := FnC.rec (motive := fun _ => FX) bodyJ c
noncomputable def fCon (k : List SV → Option SV) : FX := fun _ _ _ args h n => fcT args fun args => optJ (k args) fun s => fc2 s fun s => .ok .n s .lf h n
noncomputable def hcJ (T : TypeId) (sz : Nat) (p : Nat × List SV) (h : Tr IB) (n : Nat) : JR := Prod.rec (motive := fun _ => JR) (fun m cs => fcN m fun m => fcL cs fun cs => newSJ T cs m sz m true h n fun s h n => .ok .n (.tup [s, .int .i64 0]) .lf h n) p
noncomputable def fHc (T : TypeId) (sz : Nat) (k : List SV → Option (Nat × List SV)) : FX := fun _ _ _ args h n => optJ (k args) fun p => hcJ T sz p h n
noncomputable def fcTr (t : Tr IB) (K : Tr IB → JR) : JR := Tr.rec (motive := fun _ => (Tr IB → JR) → JR) (fun K => K .lf) (fun l x r _ _ K => K (.nd l x r)) t K
theorem fcTr_eq (t : Tr IB) (K : Tr IB → JR) : fcTr t K = K t := by cases t <;> rfl
noncomputable def mgJ (p : SV × Tr IB × Nat) : JR := Prod.rec (motive := fun _ => JR) (fun s q => Prod.rec (motive := fun _ => JR) (fun t n => fcN n fun n => fcTr t fun t => .ok .n s .lf t n) q) p
noncomputable def fMg (g : GF) : FX := fun _ _ _ args h n => optJ (frameI g args h n) mgJ
noncomputable def fjJ (x : FJ) : FX := FJ.rec (motive := fun _ => FX) fCon fcJ fHc fMg x
noncomputable def runJ (E : Env) (tab : Tr FJ) (lm : Nat) (n : Nat) : CallJ := Nat.rec (motive := fun _ => CallJ) (fun _ _ _ _ => .bad) (fun _ ih f args h nx => getT tab f fun x => fjJ x E ih lm args h nx) n
structure FnJ where
 f : Nat
 c : FnC
def tabF : List FnJ → Tr FJ → Tr FJ
 | [], t => t
 | x :: r, t => match Nat.ble x.f 4000 with
  | true => Tr.setK 12 t x.f (some (.fn x.c)) fun t => tabF r t
  | false => tabF r t
def tabC : List ConI → Tr FJ → Tr FJ
 | [], t => t
 | x :: r, t => match Nat.ble x.f 4000 with
  | true => Tr.setK 12 t x.f (some (.con x.k)) fun t => tabC r t
  | false => tabC r t
def tabN : List ConH → Tr FJ → Tr FJ
 | [], t => t
 | x :: r, t => match Nat.ble x.f 4000 with
  | true => Tr.setK 12 t x.f (some (.hc x.T x.sz x.k)) fun t => tabN r t
  | false => tabN r t
structure GI where
 f : Nat
 g : GF
def MGOK (P : Program) (glob : Nat → Option SV) (gs : List GI) : Prop := ∀ x ∈ gs, GOK P glob x.f x.g
def tabG : List GI → Tr FJ → Tr FJ
 | [], t => t
 | x :: r, t => match Nat.ble x.f 4000 with
  | true => Tr.setK 12 t x.f (some (.mg x.g)) fun t => tabG r t
  | false => tabG r t
def mkTab (tb : List FnJ) (cs : List ConI) (hs : List ConH) (gs : List GI) : Tr FJ := tabG gs (tabN hs (tabC cs (tabF tb .lf)))
theorem tabF_get : ∀ (l : List FnJ) (t : Tr FJ) (f : Nat) (v : FJ), (tabF l t).get f = some v → (∃ x ∈ l, x.f = f ∧ v = .fn x.c) ∨ t.get f = some v
 | [], t, f, v, h => .inr h
 | x :: r, t, f, v, h => by
  simp only [tabF] at h
  split at h
  ·
   rename_i hb
   rw [Nat.ble_eq] at hb
   rw [Tr.setK_eq] at h
   rcases tabF_get r _ f v h with ⟨y, hy, e⟩ | h
   ·
    exact .inl ⟨y, by simp [hy], e⟩
   ·
    rw [Tr.get_set _ _ _ _ _ (Nat.lt_of_le_of_lt (Nat.succ_le_succ hb) (by decide))] at h
    split at h
    ·
     rename_i e
     cases h
     exact .inl ⟨x, by simp, e.symm, rfl⟩
    ·
     exact .inr h
  ·
   rcases tabF_get r _ f v h with ⟨y, hy, e⟩ | h
   ·
    exact .inl ⟨y, by simp [hy], e⟩
   ·
    exact .inr h
theorem tabG_get : ∀ (l : List GI) (t : Tr FJ) (f : Nat) (v : FJ), (tabG l t).get f = some v → (∃ x ∈ l, x.f = f ∧ v = .mg x.g) ∨ t.get f = some v
 | [], t, f, v, h => .inr h
 | x :: r, t, f, v, h => by
  simp only [tabG] at h
  split at h
  ·
   rename_i hb
   rw [Nat.ble_eq] at hb
   rw [Tr.setK_eq] at h
   rcases tabG_get r _ f v h with ⟨y, hy, e⟩ | h
   ·
    exact .inl ⟨y, by simp [hy], e⟩
   ·
    rw [Tr.get_set _ _ _ _ _ (Nat.lt_of_le_of_lt (Nat.succ_le_succ hb) (by decide))] at h
    split at h
    ·
     rename_i e
     cases h
     exact .inl ⟨x, by simp, e.symm, rfl⟩
    ·
     exact .inr h
  ·
   rcases tabG_get r _ f v h with ⟨y, hy, e⟩ | h
   ·
    exact .inl ⟨y, by simp [hy], e⟩
   ·
    exact .inr h
theorem tabC_get : ∀ (l : List ConI) (t : Tr FJ) (f : Nat) (v : FJ), (tabC l t).get f = some v → (∃ x ∈ l, x.f = f ∧ v = .con x.k) ∨ t.get f = some v
 | [], t, f, v, h => .inr h
 | x :: r, t, f, v, h => by
  simp only [tabC] at h
  split at h
  ·
   rename_i hb
   rw [Nat.ble_eq] at hb
   rw [Tr.setK_eq] at h
   rcases tabC_get r _ f v h with ⟨y, hy, e⟩ | h
   ·
    exact .inl ⟨y, by simp [hy], e⟩
   ·
    rw [Tr.get_set _ _ _ _ _ (Nat.lt_of_le_of_lt (Nat.succ_le_succ hb) (by decide))] at h
    split at h
    ·
     rename_i e
     cases h
     exact .inl ⟨x, by simp, e.symm, rfl⟩
    ·
     exact .inr h
  ·
   rcases tabC_get r _ f v h with ⟨y, hy, e⟩ | h
   ·
    exact .inl ⟨y, by simp [hy], e⟩
   ·
    exact .inr h
theorem tabN_get : ∀ (l : List ConH) (t : Tr FJ) (f : Nat) (v : FJ), (tabN l t).get f = some v → (∃ x ∈ l, x.f = f ∧ v = .hc x.T x.sz x.k) ∨ t.get f = some v
 | [], t, f, v, h => .inr h
 | x :: r, t, f, v, h => by
  simp only [tabN] at h
  split at h
  ·
   rename_i hb
   rw [Nat.ble_eq] at hb
   rw [Tr.setK_eq] at h
   rcases tabN_get r _ f v h with ⟨y, hy, e⟩ | h
   ·
    exact .inl ⟨y, by simp [hy], e⟩
   ·
    rw [Tr.get_set _ _ _ _ _ (Nat.lt_of_le_of_lt (Nat.succ_le_succ hb) (by decide))] at h
    split at h
    ·
     rename_i e
     cases h
     exact .inl ⟨x, by simp, e.symm, rfl⟩
    ·
     exact .inr h
  ·
   rcases tabN_get r _ f v h with ⟨y, hy, e⟩ | h
   ·
    exact .inl ⟨y, by simp [hy], e⟩
   ·
    exact .inr h
section
variable {E : Env} {cj : CallJ} {lm : Nat} {B0 : Nat} {w0 : World}
theorem initJ_spec : ∀ (args : List SV) (n : Nat) (T : Tr SV) (K nt : Nat) (F : Tr SV → JR), rkI K n = n → initJ args n T K nt F = .bad ∨ (n + args.length ≤ nt ∧ ∃ T', initI K n args ⟨[], T⟩ = ⟨[], T'⟩ ∧ initJ args n T K nt F = F T')
 | [], n, T, K, nt, F, _ => by
  show bB (Nat.ble n nt) (F T) .bad = .bad ∨ _
  cases h : Nat.ble n nt with
  | false => exact .inl rfl
  | true =>
   rw [Nat.ble_eq] at h
   refine .inr ⟨by simpa using h, T, rfl, ?_⟩
   show bB (Nat.ble n nt) (F T) .bad = _
   rw [← Nat.ble_eq] at h
   rw [h]; rfl
 | s :: r, n, T, K, nt, F, hrk => by
  have e : initJ (s :: r) n T K nt F = bB (kbit K n) (setT 14 T n (some s) fun T => initJ r (n + 1) T K nt F) .bad := rfl
  rw [e]
  cases hk : kbit K n with
  | false => exact .inl rfl
  | true =>
   rw [bB_t, setT_eq]
   rcases initJ_spec r (n + 1) (Tr.set 14 T n (some s)) K nt F (by simp only [rkI, hk, hrk]) with h | ⟨h1, T', h2, h3⟩
   ·
    exact .inl h
   ·
    refine .inr ⟨by simp only [List.length_cons]; omega, T', ?_, h3⟩
    simp only [initI, RE.put, hk, Tr.setK_eq, hrk]
    exact h2
theorem resJ1_le {K : Nat} {r : ResultVar} {x : XR} (hx : compR1 E.P K r = some x) (T : Tr SV) (h : Tr IB) (n : Nat) (F : SV → JR) : Le (resJ1 x T h F) (kO (resI1 E K ⟨⟨[], T⟩, ⟨h, n⟩⟩ r) F) := by
 have ok : XoOK (xoC K []) [] T (opdI K ⟨[], T⟩) := xoC_ok (K := K) (N := []) (L := []) (T := T)
 cases r with
 | tmp t =>
  simp only [compR1] at hx
  split at hx
  ·
   rename_i y hy
   cases hx
   refine rd_elim ok hy fun s hs => ?_
   have hs' : (⟨[], T⟩ : RE).get K t = some s := hs
   simp only [resI1, hs']
   exact Le.refl _
  ·
   cases hx
 | cell t U =>
  simp only [compR1] at hx
  split at hx
  ·
   rename_i y m ag hy hm hag
   cases hx
   refine rd_elim ok hy fun s hs => ?_
   have hs' : (⟨[], T⟩ : RE).get K t = some s := hs
   simp only [resI1, hs']
   exact ldJ_le hm hag h n s F
  ·
   cases hx
theorem resJL_le {K : Nat} : ∀ {rs : List ResultVar} {xs : List XR} (_ : compRL E.P K rs = some xs) (T : Tr SV) (h : Tr IB) (n : Nat) (F : List SV → JR), Le (resJL xs T h F) (kO (rs.mapM (resI1 E K ⟨⟨[], T⟩, ⟨h, n⟩⟩)) F)
 | [], xs, hx, T, h, n, F => by cases hx; exact Le.refl _
 | r :: l, xs, hx, T, h, n, F => by
  simp only [compRL] at hx
  split at hx
  ·
   rename_i a asq ha has
   cases hx
   show Le (resJ1 a T h fun s => resJL asq T h fun l => F (s :: l)) _
   refine (resJ1_le ha T h n _).trans ?_
   rw [List.mapM_cons]
   cases resI1 E K ⟨⟨[], T⟩, ⟨h, n⟩⟩ r with
   | none => exact Le.refl _
   | some s =>
    refine (resJL_le has T h n _).trans (Le.of_eq ?_)
    cases l.mapM (resI1 E K ⟨⟨[], T⟩, ⟨h, n⟩⟩) <;> rfl
  ·
   cases hx
theorem resJ_le {K : Nat} {rs : List ResultVar} {x : RS} (hx : compRS E.P K rs = some x) (T : Tr SV) (h : Tr IB) (n : Nat) (F : SV → JR) : Le (resJ x T h F) (kO (resI E K rs ⟨⟨[], T⟩, ⟨h, n⟩⟩) F) := by
 unfold compRS at hx
 split at hx
 ·
  split at hx
  ·
   rename_i a ha
   cases hx
   exact resJ1_le ha T h n F
  ·
   cases hx
 ·
  rename_i rs hne
  split at hx
  ·
   rename_i asq has
   cases hx
   show Le (resJL asq T h _) _
   refine (resJL_le has T h n _).trans (Le.of_eq ?_)
   unfold resI
   split
   ·
    exact absurd rfl (hne _)
   ·
    generalize List.mapM (resI1 E K ⟨⟨[], T⟩, ⟨h, n⟩⟩) _ = o
    cases o <;> rfl
  ·
   cases hx
theorem bodyJ_spec {x : FnI} {c : FnC} (hc : compF E.P x = some c) {args : List SV} {h : Tr IB} {n : Nat} {q : Out} {s : SV} {T' : Tr SV} {h' : Tr IB} {n' : Nat} (he : fcJ c E cj lm args h n = .ok q s T' h' n') : fnRun E (callO cj) lm x args ⟨h, n⟩ = some (s, ⟨h', n'⟩) := by
 unfold compF at hc
 split at hc
 rotate_left
 ·
  cases hc
 rename_i k rs hk hrs hnt
 rw [decide_eq_true_eq] at hnt
 cases hc
 replace he : initJ args 0 .lf x.K x.nt (fun T => endC (exC k E cj lm T h n) fun T h n => resJ rs T h fun s => .ok .n s .lf h n) = .ok q s T' h' n' := he
 rcases initJ_spec args 0 .lf x.K x.nt (fun T => endC (exC k E cj lm T h n) fun T h n => resJ rs T h fun s => .ok .n s .lf h n) rfl with e | ⟨e1, T1, e2, e3⟩
 ·
  rw [e] at he; cases he
 ·
  rw [e3] at he
  unfold fnRun
  have hcond : (decide (args.length ≤ x.nt) && decide (args.length < 16000)) = true := by
   rw [decide_eq_true (by omega), decide_eq_true (by omega)]; rfl
  simp only [hcond, e2]
  have fin : ∀ (T2 : Tr SV) (h2 : Tr IB) (n2 : Nat), (resJ rs T2 h2 fun s => .ok .n s .lf h2 n2) = .ok q s T' h' n' → (match resI E x.K x.rs ⟨⟨[], T2⟩, ⟨h2, n2⟩⟩ with | some s => some (s, (⟨h2, n2⟩ : Hp)) | none => none) = some (s, ⟨h', n'⟩) := by
   intro T2 h2 n2 hr
   rcases resJ_le hrs T2 h2 n2 (fun s => .ok .n s .lf h2 n2) with e | e
   ·
    rw [e] at hr; cases hr
   ·
    rw [e] at hr
    cases hres : resI E x.K x.rs ⟨⟨[], T2⟩, ⟨h2, n2⟩⟩ with
    | none => rw [hres] at hr; cases hr
    | some s2 => rw [hres] at hr; cases hr; rfl
  rcases compC_le (lm := lm) (cj := cj) x.code k hk T1 h n with e | ⟨q1, T2, h2, n2, f1, f2⟩
  ·
   rw [e] at he; cases he
  ·
   rw [f1] at he
   rw [f2]
   cases q1 with
   | n => exact fin T2 h2 n2 he
   | x i => cases he
   | r => exact fin T2 h2 n2 he
def TabJOK (P : Program) (tb : List FnJ) : Prop := ∀ y ∈ tb, ∃ x : FnI, TabOK P [x] ∧ x.f = y.f ∧ compF P x = some y.c
theorem TabJOK.nil {P : Program} : TabJOK P [] := fun y h => by cases h
theorem TabJOK.cons {P : Program} {x : FnI} {f : Nat} {c : FnC} {tb : List FnJ} (hx : TabOK P [x]) (hf : x.f = f) (hc : compF P x = some c) (h : TabJOK P tb) : TabJOK P (⟨f, c⟩ :: tb) := fun y hy => by
 rcases List.mem_cons.1 hy with e | e
 ·
  subst e; exact ⟨x, hx, hf, hc⟩
 ·
  exact h y e
theorem runJ_sound {tb : List FnJ} {cs : List ConI} {hs : List ConH} {gs : List GI} (hE : EnvOK E) (hm : E.P.follows .mixedOrders = true) (htb : TabJOK E.P tb) (hcs : ConOK E.P E.glob cs) (hhs : ConHOK E.P E.glob hs) (hgs : MGOK E.P E.glob gs) : ∀ n, CallOK E.P E.glob B0 w0 (callO (runJ E (mkTab tb cs hs gs) lm n)) := by
 intro n
 induction n with
 | zero => intro f args h s h' he; cases he
 | succ n ih =>
  intro f args h s h' he
  unfold callO at he
  split at he
  rotate_left
  ·
   cases he
  rename_i q s1 T1 h1 n1 hrun
  cases he
  replace hrun : getT (mkTab tb cs hs gs) f (fun x => fjJ x E (runJ E (mkTab tb cs hs gs) lm n) lm args h.t h.nx) = .ok q s T1 h1 n1 := hrun
  rw [getT_eq] at hrun
  cases hg : (mkTab tb cs hs gs).get f with
  | none => rw [hg] at hrun; cases hrun
  | some v =>
   rw [hg, kO_some] at hrun
   rcases tabG_get gs _ f v hg with ⟨c, hc, rfl, rfl⟩ | hg
   ·
    replace hrun : optJ (frameI c.g args h.t h.nx) mgJ = JR.ok q s T1 h1 n1 := hrun
    rw [optJ_eq] at hrun
    cases hk : frameI c.g args h.t h.nx with
    | none => rw [hk] at hrun; cases hrun
    | some p =>
     obtain ⟨s', t', n'⟩ := p
     rw [hk] at hrun
     replace hrun : (fcN n' fun n => fcTr t' fun t => .ok .n s' .lf t n) = JR.ok q s T1 h1 n1 := hrun
     rw [fcN_eq, fcTr_eq] at hrun
     cases hrun
     exact frame_sound (hgs c hc) hk
   rcases tabN_get hs _ f v hg with ⟨c, hc, rfl, rfl⟩ | hg
   ·
    replace hrun : optJ (c.k args) (fun p => hcJ c.T c.sz p h.t h.nx) = .ok q s T1 h1 n1 := hrun
    rw [optJ_eq] at hrun
    cases hk : c.k args with
    | none => rw [hk] at hrun; cases hrun
    | some p =>
     obtain ⟨m, xs⟩ := p
     rw [hk] at hrun
     replace hrun : (fcN m fun m => fcL xs fun cs => newSJ c.T cs m c.sz m true h.t h.nx fun s h n => .ok .n (.tup [s, .int .i64 0]) .lf h n) = JR.ok q s T1 h1 n1 := hrun
     rw [fcN_eq, fcL_eq, newSJ_eq] at hrun
     unfold newS at hrun
     split at hrun
     ·
      rename_i hl
      rw [kO_some] at hrun
      cases hrun
      exact conh_sound (hhs c hc) (of_decide_eq_true hl) hk
     ·
      cases hrun
   rcases tabC_get cs _ f v hg with ⟨c, hc, rfl, rfl⟩ | hg
   ·
    replace hrun : (fcT args fun args => optJ (c.k args) fun s => fc2 s fun s => .ok .n s .lf h.t h.nx) = JR.ok q s T1 h1 n1 := hrun
    simp only [fcT_eq, optJ_eq, fc2_eq] at hrun
    cases hk : c.k args with
    | none => rw [hk] at hrun; cases hrun
    | some s2 =>
     rw [hk] at hrun
     cases hrun
     exact con_sound hcs hc hk
   ·
    rcases tabF_get tb _ f v hg with ⟨y, hy, rfl, rfl⟩ | hg
    ·
     obtain ⟨x, hx, hxf, hcf⟩ := htb y hy
     have := fn_sound hE hm ih hx (bodyJ_spec hcf hrun)
     rw [hxf] at this
     exact this
    ·
     cases hg
def okV (s : SV) : Bool := match s with
 | .bool b => b
 | _ => false
noncomputable def okT (r : JR) : Bool := JR.rec (motive := fun _ => Bool) false (fun _ s _ _ _ => okV s) r
theorem okT_spec {r : JR} (h : okT r = true) : ∃ q T t n, r = .ok q (.bool true) T t n := by
 cases r with
 | bad => cases h
 | ok q s T t n =>
  replace h : okV s = true := h
  unfold okV at h
  split at h
  ·
   subst h; exact ⟨q, T, t, n, rfl⟩
  ·
   cases h
end
noncomputable def outM (r : JR) (ys : List SV) : Option SV := JR.rec (motive := fun _ => List SV → Option SV) (fun _ => none) (fun _ s _ _ _ ys => match s.flat2 && ys.all SV.flat1 with
 | true => some s
 | false => none) r ys
noncomputable def memoK (E : Env) (t : Tr FJ) (lm n f : Nat) (ys : List SV) : Option SV := outM (runJ E t lm n f ys .lf 0) ys
noncomputable def memos (E : Env) (t : Tr FJ) (lm n : Nat) : List Nat → List ConI
 | [] => []
 | f :: r => ⟨f, memoK E t lm n f⟩ :: memos E t lm n r
theorem mem_memos {E : Env} {t : Tr FJ} {lm n : Nat} {c : ConI} : ∀ {fs : List Nat}, c ∈ memos E t lm n fs → ∃ f ∈ fs, c = ⟨f, memoK E t lm n f⟩
 | [], h => by cases h
 | f :: r, h => by
  rcases List.mem_cons.1 h with h | h
  ·
   exact ⟨f, by simp, h⟩
  ·
   obtain ⟨g, hg, e⟩ := mem_memos h
   exact ⟨g, by simp [hg], e⟩
def inTab (tb : List FnJ) (fs : List Nat) : Bool := fs.all fun f => tb.any fun x => Nat.beq x.f f
theorem outM_spec {r : JR} {ys : List SV} {s : SV} (h : outM r ys = some s) : s.flat2 = true ∧ ys.all SV.flat1 = true ∧ ∃ q T t m, r = .ok q s T t m := by
 cases r with
 | bad => cases h
 | ok q s' T t m =>
  replace h : (match s'.flat2 && ys.all SV.flat1 with | true => some s' | false => none) = some s := h
  split at h
  ·
   rename_i hb
   cases h
   rw [Bool.and_eq_true] at hb
   exact ⟨hb.1, hb.2, q, T, t, m, rfl⟩
  ·
   cases h
theorem memos_ok {E : Env} {lm n : Nat} {tb : List FnJ} {cs : List ConI} {hs : List ConH} {gs : List GI} (hE : EnvOK E) (hm : E.P.follows .mixedOrders = true) (htb : TabJOK E.P tb) (hcs : ConOK E.P E.glob cs) (hhs : ConHOK E.P E.glob hs) (hgs : MGOK E.P E.glob gs) {fs : List Nat} (hfs : inTab tb fs = true) :
  ConOK E.P E.glob (memos E (mkTab tb cs hs gs) lm n fs) := by
 intro c hc
 obtain ⟨f, hf, rfl⟩ := mem_memos hc
 have h1 := List.all_eq_true.1 hfs f hf
 obtain ⟨x, hx, hxf⟩ := List.any_eq_true.1 h1
 obtain ⟨z, hz, hzf, _⟩ := htb x hx
 obtain ⟨fn, f1, f2, f3, _⟩ := hz z (by simp)
 rw [hzf, Nat.eq_of_beq_eq_true hxf] at f1
 refine ⟨fun ys => (memoK E (mkTab tb cs hs gs) lm n f ys).map fun s => (True, s), psound_of_call (fun B0 w0 => runJ_sound (lm := lm) hE hm htb hcs hhs hgs n) ⟨fn, f1, f3, by rw [f2]; rfl⟩ (fun args p s h => ?_), fun ys s h => ?_⟩
 ·
  rw [Option.map_eq_some_iff] at h
  obtain ⟨s', h, e⟩ := h
  cases e
  obtain ⟨g1, g2, q, T, t, m, e⟩ := outM_spec h
  refine ⟨g2, g1, ⟨t, m⟩, ?_⟩
  show (match runJ E (mkTab tb cs hs gs) lm n f args .lf 0 with | .ok _ s _ h' n' => some (s, (⟨h', n'⟩ : Hp)) | .bad => none) = _
  rw [e]
 ·
  obtain ⟨g1, g2, _⟩ := outM_spec h
  exact ⟨g1, g2, True, Option.map_eq_some_iff.2 ⟨s, h, rfl⟩, trivial⟩
theorem tabOK1 {P : Program} {x : FnI} {fn : Func} (h1 : P.funcs[x.f]? = some fn) (h2 : fn.body = some x.code) (h3 : (fn.name == "runtime.NumGoroutine") = false) (h4 : fn.ntmps = x.nt) (h5 : fn.results.toList = x.rs) : TabOK P [x] := fun y hy => by
 rw [List.mem_singleton.1 hy]
 exact ⟨fn, h1, h2, h3, h4, h5⟩
def flatK (k : List SV → Option SV) (ys : List SV) : Option SV := match ys.all SV.flat1 with
 | true => match k ys with
  | some s => match s.flat2 with
   | true => some s
   | false => none
  | none => none
 | false => none
theorem conOK_of {P : Program} {glob : Nat → Option SV} {f : FuncId} {k : List SV → Option (Prop × SV)} {c : List SV → Option SV} (hP : PSound P glob f k) (hc : ∀ ys s, c ys = some s → ∃ p, k ys = some (p, s) ∧ p) : ConOK P glob [⟨f, flatK c⟩] := by
 intro x hx
 rw [List.mem_singleton.1 hx]
 refine ⟨k, hP, fun ys s h => ?_⟩
 simp only [flatK] at h
 split at h
 ·
  rename_i h1
  split at h
  ·
   rename_i s' h2
   split at h
   ·
    rename_i h3
    cases h
    exact ⟨h3, h1, hc ys _ h2⟩
   ·
    cases h
  ·
   cases h
 ·
  cases h
theorem conOK_app {P : Program} {glob : Nat → Option SV} {a b : List ConI} (ha : ConOK P glob a) (hb : ConOK P glob b) : ConOK P glob (a ++ b) := fun c hc => by
 rcases List.mem_append.1 hc with h | h
 ·
  exact ha c h
 ·
  exact hb c h
def oldI (h : Tr IB) (ρ : Nat → Option Nat) (k : Nat) : Option (Option IB) := match h.get k with
 | none => some none
 | some b => match rnB ρ b with
  | some b => some (some b)
  | none => none
noncomputable def compact2 (m : Nat) (s : SV) (h : Tr IB) (ls : List Nat) : Option (SV × List (Option IB) × List IB) := match decide (m + ls.length < lim) && allLt lim (nums 0 m ++ ls) && chkK (nums 0 m ++ ls) (idxT (nums 0 m ++ ls)), rn2 (idxT (nums 0 m ++ ls)).get s, mapO (oldI h (idxT (nums 0 m ++ ls)).get) (nums 0 m), mapO (entI h (idxT (nums 0 m ++ ls)).get) ls with
 | true, some s, some olds, some news => some (s, olds, news)
 | _, _, _, _ => none
noncomputable def compact (m : Nat) (s : SV) (h : Tr IB) : Option (SV × List (Option IB) × List IB) := compact2 m s h ((reach h 100000 (refs2 s (nums 0 m)) .lf []).filter fun k => Nat.ble m k)
noncomputable def outG (r : JR) (m : Nat) : Option (SV × List (Option IB) × List IB) := JR.rec (motive := fun _ => Nat → Option (SV × List (Option IB) × List IB)) (fun _ => none) (fun _ s _ h _ m => compact m s h) r m
noncomputable def memoG (E : Env) (t : Tr FJ) (lm n f : Nat) : GF := fun args es => fcNt es.length fun m => outG (runJ E t lm n f args (putsO (enumN (es.map some) 0) .lf) m) m
theorem compact2_spec {m : Nat} {s s2 : SV} {h : Tr IB} {n : Nat} {ls : List Nat} {olds : List (Option IB)} {news : List IB} (hc : compact2 m s h ls = some (s2, olds, news)) :
  olds.length = m ∧ news.length = ls.length ∧ rn2 (idxT (nums 0 m ++ ls)).get s = some s2 ∧ Part (idxT (nums 0 m ++ ls)).get (List.range m ++ ls) ⟨h, n⟩ (hpOf (olds ++ news.map some)) := by
 unfold compact2 at hc
 split at hc
 rotate_left
 ·
  cases hc
 rename_i s' o' n' hb hs ho hn
 cases hc
 simp only [Bool.and_eq_true, decide_eq_true_eq] at hb
 obtain ⟨⟨hb1, hb2⟩, hb3⟩ := hb
 obtain ⟨l1, g1⟩ := mapO_get ho
 obtain ⟨l2, g2⟩ := mapO_get hn
 rw [nums_len] at l1
 refine ⟨l1, l2, hs, ⟨fun k j hk => ?_, fun i j k hi hj => ?_, fun j b' hj => ?_⟩⟩
 ·
  have := idxT_get hb2 hk
  rwa [nums_zero] at this
 ·
  rw [← nums_zero] at hi hj
  exact chkK_one hb3 i j k hi hj
 ·
  rw [hpOf_get (by simp [l1, l2]; omega)] at hj
  by_cases hlt : j < m
  ·
   rw [List.getElem?_append_left (by omega)] at hj
   obtain ⟨k, hk, e⟩ := g1 j _ hj
   obtain ⟨_, rfl⟩ := nums_get hk
   rw [Nat.zero_add] at e
   unfold oldI at e
   split at e
   ·
    cases e
   ·
    rename_i b hb
    split at e
    ·
     rename_i b2 hb2
     cases e
     exact ⟨j, b, by rw [List.getElem?_append_left (by simpa using hlt), List.getElem?_range hlt], hb, hb2⟩
    ·
     cases e
  ·
   rw [List.getElem?_append_right (by omega), List.getElem?_map, Option.map_eq_some_iff] at hj
   obtain ⟨b2, hj, e⟩ := hj
   cases e
   obtain ⟨k, hk, e⟩ := g2 _ _ hj
   unfold entI at e
   split at e
   ·
    rename_i b hb
    refine ⟨k, b, ?_, hb, e⟩
    rw [List.getElem?_append_right (by simpa using Nat.le_of_not_lt hlt)]
    simpa [l1] using hk
   ·
    cases e
theorem memoG_ok {E : Env} {lm n : Nat} {tb : List FnJ} {cs : List ConI} {hs : List ConH} {gs : List GI} (hE : EnvOK E) (hm : E.P.follows .mixedOrders = true) (htb : TabJOK E.P tb) (hcs : ConOK E.P E.glob cs) (hhs : ConHOK E.P E.glob hs) (hgs : MGOK E.P E.glob gs) (f : Nat) : GOK E.P E.glob f (memoG E (mkTab tb cs hs gs) lm n f) := by
 intro args es s2 olds news he
 unfold memoG at he
 rw [fcNt_eq] at he
 cases hr : runJ E (mkTab tb cs hs gs) lm n f args (putsO (enumN (es.map some) 0) .lf) es.length with
 | bad => rw [hr] at he; cases he
 | ok q s T h1 n1 =>
  rw [hr] at he
  replace he : compact es.length s h1 = some (s2, olds, news) := he
  unfold compact at he
  generalize (reach h1 100000 (refs2 s (nums 0 es.length)) .lf []).filter (fun k => Nat.ble es.length k) = ls at he
  obtain ⟨a1, a2, a3, a4⟩ := compact2_spec (n := n1) he
  refine ⟨a1, fun B0 w0 => ?_⟩
  have hcall : callO (runJ E (mkTab tb cs hs gs) lm n) f args (hpOf (es.map some)) = some (s, ⟨h1, n1⟩) := by
   unfold callO
   have : (hpOf (es.map some)).nx = es.length := by simp [hpOf]
   rw [this]
   show (match runJ E (mkTab tb cs hs gs) lm n f args (putsO (enumN (es.map some) 0) .lf) es.length with | .ok _ s _ h' n' => some (s, (⟨h', n'⟩ : Hp)) | .bad => none) = _
   rw [hr]
  have hC : CallOK1 E.P E.glob B0 w0 f args (hpOf (es.map some)) s ⟨h1, n1⟩ := runJ_sound (lm := lm) hE hm htb hcs hhs hgs n f args _ _ _ hcall
  have hnx : (hpOf (es.map some)).nx = es.length := by simp [hpOf]
  refine call_less hC (ls := ls) (ρ := (idxT (nums 0 es.length ++ ls)).get) (by rw [hnx]; exact a4) ?_ a3
  show (olds ++ news.map some).length = _
  rw [hnx]; simp [a1, a2]
noncomputable def memoGs (E : Env) (t : Tr FJ) (lm n : Nat) : List Nat → List GI
 | [] => []
 | f :: r => ⟨f, memoG E t lm n f⟩ :: memoGs E t lm n r
theorem memoGs_ok {E : Env} {lm n : Nat} {tb : List FnJ} {cs : List ConI} {hs : List ConH} {gs : List GI} (hE : EnvOK E) (hm : E.P.follows .mixedOrders = true) (htb : TabJOK E.P tb) (hcs : ConOK E.P E.glob cs) (hhs : ConHOK E.P E.glob hs) (hgs : MGOK E.P E.glob gs) : ∀ fs : List Nat, MGOK E.P E.glob (memoGs E (mkTab tb cs hs gs) lm n fs)
 | [], x, hx => by cases hx
 | f :: r, x, hx => by
  rcases List.mem_cons.1 hx with e | e
  ·
   subst e; exact memoG_ok hE hm htb hcs hhs hgs f
  ·
   exact memoGs_ok hE hm htb hcs hhs hgs r x e
theorem mgOK_app {P : Program} {glob : Nat → Option SV} {a b : List GI} (ha : MGOK P glob a) (hb : MGOK P glob b) : MGOK P glob (a ++ b) := fun x hx => by
 rcases List.mem_append.1 hx with h | h
 ·
  exact ha x h
 ·
  exact hb x h
theorem mgOK_nil {P : Program} {glob : Nat → Option SV} : MGOK P glob [] := fun x hx => by cases hx
end Go.Proofs.YtmhhmaopnjfcgaaGreatDoor.V.I
namespace Go.Proofs.YtmhhmaopnjfcgaaGreatDoor.V.I
open Go Go.Proofs.Tryz
noncomputable section
def q0:XO:=.kep (.l .e)
def q1:RS:=.one (.tmp q0)
def q2:XO:=.lit (.bool false)
def q3:OI:=.mv q2
def q4:XD:=.kep (.l .e)
def q5:CJ:=.rg (.op .no q3 q4 .fin)
def q6:XO:=.lit (.int .u8 (.ofNat 4))
def q7:OI:=.bld [(.mk 0 1 q6)] [(.int .u8 (.ofNat 0)), (.int .i64 (.ofNat 0))]
def q8:XO:=.lit (.int .i64 (.ofNat 2))
def q9:XO:=.lit (.int .i64 (.ofNat 6))
def qa:XO:=.kep .e
def qb:OI:=.mv qa
def qc:XO:=.loc .z
def qd:OI:=.bin .rem 5 qc q6
def qe:Pu:=.s (.s (.s .z))
def qf:XO:=.loc qe
def qg:XO:=.lit (.int .u8 (.ofNat 1))
def qh:BP:=.mk 2 1 qg
def qi:XO:=.loc (.s (.s .z))
def qj:XD:=.kep (.r .e)
def qk:XO:=.kep (.r .e)
def ql:RI:=.op .no (.st 6 qk qc) .non .fin
def qm:OI:=.ld 1 false qc
def qn:XO:=.lit (.int .u8 (.ofNat 2))
def qo:Pb:=.r (.l .e)
def qp:XD:=.kep (.l qo)
def qq:XO:=.kep (.l qo)
def qr:XO:=.lit (.int .i64 (.ofNat 4))
def qs:DO:=.hard (.call (.lit (.clo 28 [])) [])
def qt:XO:=.loc (.s .z)
def qu:OI:=.mv qc
def qv:DO:=.soft qu
def qw:OI:=.ext .z qc
def qx:DO:=.soft qw
def qy:Pb:=.l (.l .e)
def qz:XD:=.kep qy
def q10:XO:=.kep qy
def q11:OI:=.ext (.s .z) qt
def q12:DO:=.soft q11
def q13:XD:=.kep qo
def q14:DI:=.op .no qv q13 .fin
def q15:XO:=.lit (.int .i64 (.ofNat 0))
def q16:XO:=.lit (.int .i64 (.ofNat 5))
def q17:XO:=.lit (.int .i64 (.ofNat 3))
def q18:OI:=.bsl 3 4 1 [q15, q17, q16, qr]
def q19:OI:=.ias 1 qi qc
def q1a:Pb:=.l (.r .e)
def q1b:XD:=.kep q1a
def q1c:RI:=.op .no qu q1b .fin
def q1d:XO:=.kep qo
def q1e:OI:=.mv q1d
def q1f:OI:=.bin .neq 41 qc q15
def q1g:XG:=.yes qc false
def q1h:OI:=.ld 7 true q10
def q1i:XG:=.yes qt false
def q1j:OI:=.bld [] [(.int .i64 (.ofNat 0)), (.int .i64 (.ofNat 0)), (.int .u8 (.ofNat 0))]
def q1k:XG:=.yes qi false
def q1l:XO:=.kep q1a
def q1m:OI:=.mv q1l
def q1n:XG:=.yes qf false
def q1o:OI:=.call (.lit (.clo 29 [])) [qi, qt, qc]
def q1p:XO:=.loc (.s qe)
def q1q:XG:=.yes q1p false
def q1r:OI:=.bin .eql 3 qc q15
def q1s:XO:=.loc (.s (.s qe))
def q1t:XO:=.lit (.bool true)
def q1u:OI:=.pick q1s q1t qc
def q1v:OI:=.fadr 0 q10
def q1w:OI:=.fadr 2 qc
def q1x:OI:=.len qc
def q1y:XD:=.kep (.r qo)
def q1z:XO:=.kep (.r qo)
def q20:OI:=.mv q15
def q21:Pb:=.r (.r .e)
def q22:XD:=.kep q21
def q23:RI:=.op .no q20 q22 .fin
def q24:XD:=.kep (.l qy)
def q25:RI:=.op .no q20 q24 .fin
def q26:CJ:=.rg q25
def q27:XO:=.kep (.l qy)
def q28:OI:=.mv q27
def q29:OI:=.bin .lss 3 q1p qc
def q2a:XD:=.kep (.l q1a)
def q2b:XO:=.kep (.l q1a)
def q2c:CJ:=.exit 0
def q2d:CJ:=.cond q2b .skip q2c
def q2e:OI:=.ias 3 qt qc
def q2f:OI:=.ld 3 true qc
def q2g:OI:=.alloc 84 [(.int .i64 (.ofNat 0)), (.int .u8 (.ofNat 0)), (.int .u8 (.ofNat 0))]
def q2h:XD:=.kep (.r qy)
def q2i:XO:=.kep (.r qy)
def q2j:RI:=.op .no (.st 3 q2i qc) .non .fin
def q2k:XG:=.yes qc true
def q2l:OI:=.fadr 0 q2i
def q2m:XG:=.yes qt true
def q2n:XG:=.yes qi true
def q2o:XG:=.yes qf true
def q2p:OI:=.fadr 1 q2i
def q2q:XO:=.loc (.s (.s (.s (.s qe))))
def q2r:XG:=.yes q2q true
def q2s:OI:=.pick qf qc q2
def q2t:Pu:=.s (.s (.s (.s (.s qe))))
def q2u:XO:=.loc q2t
def q2v:XG:=.yes q2u true
def q2w:XG:=.yes q2q false
def q2x:Pu:=.s (.s (.s (.s (.s q2t))))
def q2y:XO:=.loc (.s (.s (.s (.s q2x))))
def q2z:OI:=.pick q2u q1t qc
def q30:Pu:=.s (.s (.s (.s (.s q2x))))
def q31:XD:=.kep (.r q1a)
def q32:XO:=.kep (.r q1a)
def q33:XO:=.kep q21
def q34:OI:=.mv q33
def q35:XO:=.lit (.int .i64 (.ofNat 1))
def q36:OI:=.bin .add 3 qc q35
def q37:RI:=.op .no qu q22 .fin
def q38:CJ:=.rg (.op .no q34 .loc (.op .no q36 .loc q37))
def q39:RI:=.op .no qu q24 .fin
def q3a:CJ:=.rg (.op .no q28 .loc (.op .no q36 .loc q39))
def q3b:OI:=.call (.lit (.clo 10 [])) [qc]
def q3c:OI:=.bin .eql 41 qc q15
def q3d:OI:=.pick qt qc q2
def q3e:RI:=.op .no qu q4 .fin
def q3f:RS:=.one (.tmp qk)
def q3g:OI:=.box 34 qa
def q3h:RI:=.op .no q20 qj .fin
def q3i:OI:=.ld 7 true q0
def q3j:OI:=.call (.lit (.clo 34 [])) [qc]
def q3k:OI:=.alloc 94 [(.int .i64 (.ofNat 0)), (.int .i64 (.ofNat 0)), (.con (.slice Option.none 0 0)), (.int .u8 (.ofNat 0)), (.int .i64 (.ofNat 0)), (.int .i64 (.ofNat 0)), (.con (.slice Option.none 0 0)), (.con (.slice Option.none 0 0)), (.con (.slice Option.none 0 0))]
def q3l:RI:=.op .no qu q13 .fin
def q3m:RI:=.op .no q1f qp .fin
def q3n:RI:=.op .no qu qj .fin
def q3o:OI:=.ld 9 true q10
def q3p:CJ:=.seq (.rg (.op .no q1m .loc q3n)) .ret
def q3q:OI:=.alloc 98 [(.con (.map Option.none))]
def q3r:RI:=.op .no (.st 1 q33 qc) .non .fin
def q3s:OI:=.fadr 0 q0
def q3t:XD:=.kep (.l q21)
def q3u:RI:=.op .no (.len q2b) q31 (.op .no q20 q3t .fin)
def q3v:XO:=.kep (.l q21)
def q3w:XD:=.kep (.r q21)
def q3x:CJ:=.rg (.op .no (.bin .lss 3 q3v q32) q3w .fin)
def q3y:XO:=.kep (.r q21)
def q3z:CJ:=.cond q3y .skip q2c
def q40:RI:=.op .no (.st 3 q27 qc) .non .fin
def q41:BP:=.mk 0 1 qi
def q42:BP:=.mk 1 1 qc
def q43:OI:=.bld [q41, q42] [(.int .i64 (.ofNat 0)), (.int .u8 (.ofNat 0))]
def q44:RI:=.op .no qu q3t .fin
def q45:CJ:=.rg (.op .no (.bin .add 3 q3v q35) .loc q44)
def q46:OI:=.alloc 4 [(.bool false)]
def q47:RI:=.op .no (.call (.lit (.clo 36 [])) [qt, qc]) .loc .fin
def q48:Pb:=.l (.l qy)
def q49:XD:=.kep q48
def q4a:XO:=.kep q48
def q4b:CJ:=.rg q3h
def q4c:CJ:=.seq q4b .ret
def q4d:OI:=.box 26 qa
def q4e:CJ:=.rg (.op .no q4d q4 q3h)
def q4f:OI:=.bin .lss 3 qc q35
def q4g:OI:=.fadr 1 q0
def q4h:OI:=.pick qf q1t qc
def q4i:OI:=.bin .gtr 3 qc (.lit (.int .i64 (.ofNat 256)))
def q4j:OI:=.bin .mul 3 qi qc
def q4k:XG:=.yes q1s false
def q4l:XO:=.loc (.s (.s (.s qe)))
def q4m:OI:=.pick q4l q1t qc
def q4n:OI:=.mv q35
def q4o:CJ:=.rg (.op .no q4n qj .fin)
def q4p:CJ:=.seq q4o .ret
def q4q:CJ:=.cond q10 q4p .skip
def q4r:OI:=.alloc 34 [(.int .i64 (.ofNat 0)), (.int .i64 (.ofNat 0)), (.con (.slice Option.none 0 0)), (.int .u8 (.ofNat 0)), (.int .i64 (.ofNat 0)), (.int .i64 (.ofNat 0)), (.con (.slice Option.none 0 0))]
def q4s:OI:=.mv q0
def q4t:OI:=.bld [(.mk 0 1 qt), q42] [(.int .i64 (.ofNat 0)), (.int .i64 (.ofNat 0))]
def q4u:OI:=.bld [(.mk 0 2 qc)] [(.int .i64 (.ofNat 0)), (.int .i64 (.ofNat 0)), (.con (.slice Option.none 0 0))]
def q4v:RI:=.op .no (.st 7 q10 qc) .non .fin
def q4w:RI:=.op .no q20 q13 .fin
def q4x:OI:=.bin .mul 3 qr qc
def q4y:CJ:=.cond q1l .skip q2c
def q4z:DO:=.soft q1v
def q50:OI:=.fadr 0 qc
def q51:DO:=.soft q50
def q52:OI:=.ld 2 true qc
def q53:DO:=.soft q52
def q54:DO:=.soft q1e
def q55:OI:=.call (.lit (.clo 53 [])) [qt, qc]
def q56:DO:=.hard q55
def q57:BP:=.mk 3 1 qc
def q58:OI:=.app 32 40 4 48 q1p qc
def q59:CJ:=.rg (.op .no q1e .loc (.op .no q36 .loc q3l))
def q5a:XR:=.tmp q10
def q5b:RS:=.many [(.cell 3 true qk), q5a]
def q5c:OI:=.alloc 29 [(.int .i64 (.ofNat 0)), (.int .i64 (.ofNat 0)), (.con (.slice Option.none 0 0))]
def q5d:RI:=.op .no q20 qz .fin
def q5e:RI:=.op .no q1f q2a .fin
def q5f:OI:=.bld [] [(.int .i64 (.ofNat 0)), (.int .i64 (.ofNat 0)), (.con (.slice Option.none 0 0))]
def q5g:RI:=.op .no qu qz .fin
def q5h:RI:=.op .no (.st 3 qk qt) .non q5g
def q5i:RI:=.op .no (.st 1 q27 qc) .non .fin
def q5j:RI:=.op .no qm q3t (.op .no (.len q3v) q3w (.op .no q20 q49 .fin))
def q5k:Pb:=.r (.l qy)
def q5l:XD:=.kep q5k
def q5m:CJ:=.rg (.op .no (.bin .lss 3 q4a q3y) q5l .fin)
def q5n:XO:=.kep q5k
def q5o:CJ:=.cond q5n .skip q2c
def q5p:OI:=.mv q4a
def q5q:OI:=.mv qi
def q5r:RI:=.op .no (.st 3 q1z qc) .non .fin
def q5s:DO:=.soft qm
def q5t:OI:=.mv qq
def q5u:DO:=.soft (.ld 1 false q27)
def q5v:OI:=.fadr 0 q1z
def q5w:DO:=.soft q1w
def q5x:DI:=.op .no q5w .loc (.op .no (.hard (.st 1 qc qi)) .non .fin)
def q5y:RI:=.op .no qu q49 .fin
def q5z:CJ:=.rg (.op .no (.bin .add 3 q4a q35) .loc q5y)
def q60:OI:=.ld 3 true q2i
def q61:RI:=.op .no (.st 3 qk qc) .non q5d
def q62:XR:=.tmp q1l
def q63:RI:=.op .no q20 q1b .fin
def q64:OI:=.ld 7 true qk
def q65:Pb:=.l (.l qo)
def q66:XD:=.kep q65
def q67:XO:=.kep q65
def q68:OI:=.bld [] [(.int .i64 (.ofNat 0)), (.int .i64 (.ofNat 0)), (.con (.slice Option.none 0 0)), (.int .u8 (.ofNat 0)), (.int .i64 (.ofNat 0)), (.int .i64 (.ofNat 0)), (.con (.slice Option.none 0 0))]
def q69:RI:=.op .no (.st 7 q1d qt) .non q1c
def q6a:OI:=.ld 6 true q10
def q6b:Pb:=.r (.l qo)
def q6c:XD:=.kep q6b
def q6d:XO:=.kep q6b
def q6e:OI:=.alloc 165 [(.int .i64 (.ofNat 0)), (.int .i64 (.ofNat 0)), (.con (.slice Option.none 0 0)), (.int .u8 (.ofNat 0)), (.int .i64 (.ofNat 0)), (.int .i64 (.ofNat 0)), (.con (.slice Option.none 0 0)), (.con (.slice Option.none 0 0)), (.con (.slice Option.none 0 0)), (.con (.slice Option.none 0 0))]
def q6f:OI:=.ld 10 true q2i
def q6g:XO:=.lit (.con (.slice Option.none 0 0))
def q6h:RI:=.op .no qu qp .fin
def q6i:Pb:=.l (.r qo)
def q6j:XD:=.kep q6i
def q6k:CJ:=.rg (.op .no q5t .loc (.op .no q1f q6j .fin))
def q6l:XO:=.kep q6i
def q6m:OI:=.call (.lit (.clo 84 [])) [qi, qc]
def q6n:RI:=.op .no qu q1y .fin
def q6o:OI:=.mv q1z
def q6p:RI:=.op .no qu q2a .fin
def q6q:OI:=.mv q2b
def q6r:XD:=.kep (.r (.r qo))
def q6s:XO:=.kep (.r (.r qo))
def q6t:OI:=.mv q3v
def q6u:XD:=.kep (.l (.l q1a))
def q6v:XO:=.kep (.l (.l q1a))
def q6w:OI:=.st 7 q1d qc
def q6x:XO:=.lit (.int .i64 (.ofNat 7))
def q6y:RI:=.op .no (.mv q6x) q1b .fin
def q6z:OI:=.call (.lit (.clo 58 [])) [qc]
def q70:OI:=.alloc 31 [(.int .u8 (.ofNat 0)), (.int .i64 (.ofNat 0)), (.int .i64 (.ofNat 0))]
def q71:RI:=.op .no qu .loc .fin
def q72:DO:=.soft q6o
def q73:OI:=.ld 3 true q3y
def q74:OI:=.mv qt
def q75:OI:=.mv q5n
def q76:XD:=.kep (.r (.l q1a))
def q77:XO:=.kep (.r (.l q1a))
def q78:OI:=.fadr 3 qk
def q79:Pb:=.l (.r qy)
def q7a:XD:=.kep q79
def q7b:XO:=.kep q79
def q7c:OI:=.ias 1 qc q15
def q7d:XD:=.kep (.l (.r q1a))
def q7e:XO:=.kep (.l (.r q1a))
def q7f:OI:=.call (.lit (.clo 62 [])) [qt, qc]
def q7g:XD:=.kep (.r (.r q1a))
def q7h:XO:=.kep (.r (.r q1a))
def q7i:RI:=.op .no (.mv q17) q1b .fin
def q7j:CJ:=.seq (.rg (.op .no q68 .loc (.op .no q6w .non q7i))) .ret
def q7k:Pb:=.r (.r qy)
def q7l:XD:=.kep q7k
def q7m:RI:=.op .no qu q7l .fin
def q7n:XO:=.kep q7k
def q7o:XD:=.kep (.l (.l q21))
def q7p:XO:=.kep (.l (.l q21))
def q7q:XD:=.kep (.r (.l q21))
def q7r:XO:=.kep (.r (.l q21))
def q7s:XD:=.kep (.l (.r q21))
def q7t:RI:=.op .no qu q7s .fin
def q7u:XO:=.kep (.l (.r q21))
def q7v:XO:=.lit (.int .i64 (.ofNat 12))
def q7w:XD:=.kep .e
def q7x:RS:=.one q62
def q7y:OI:=.box 37 q0
def q7z:OI:=.ld 3 true q1d
def q80:OI:=.mv qk
def q81:OI:=.bin .neq 3 qi qc
def q82:CJ:=.seq (.rg q63) .ret
def q83:OI:=.bin .lss 3 qi qc
def q84:CJ:=.cond qq .skip q2c
def q85:DO:=.soft q34
def q86:DO:=.soft q28
def q87:OI:=.ias 1 qt qc
def q88:DO:=.soft q87
def q89:DO:=.soft q80
def q8a:RI:=.op .no q4n q1b .fin
def q8b:OI:=.alloc 65 [(.int .u8 (.ofNat 0)), (.int .i64 (.ofNat 0))]
def q8c:OI:=.ld 2 true q0
def q8d:DO:=.soft (.bld [(.mk 0 2 qt), qh, q57] [(.int .u8 (.ofNat 0)), (.int .i64 (.ofNat 0)), (.int .u8 (.ofNat 0)), (.con (.slice Option.none 0 0)), (.int .u8 (.ofNat 0)), (.int .i64 (.ofNat 0))])
def q8e:DO:=.hard (.call (.lit (.clo 27 [])) [qf, qc])
def q8f:DO:=.alloc 34 [(.int .i64 (.ofNat 0)), (.int .i64 (.ofNat 0)), (.con (.slice Option.none 0 0)), (.int .u8 (.ofNat 0)), (.int .i64 (.ofNat 0)), (.int .i64 (.ofNat 0)), (.con (.slice Option.none 0 0))] 2
def q8g:DI:=.op .no qv qz .fin
def q8h:DO:=.soft (.ext (.s .z) qi)
def q8i:DI:=.op .no qv q22 .fin
def q8j:DI:=.op .no qv q2h .fin
def q8k:OI:=.alloc 37 [(.int .i64 (.ofNat 0)), (.int .i64 (.ofNat 0)), (.int .u8 (.ofNat 0))]
def q8l:OI:=.mv q10
def q8m:OI:=.pick qi qc q2
def q8n:OI:=.mv q2i
def q8o:OI:=.ld 3 true qq
def q8p:XG:=.yes q1p true
def q8q:OI:=.bin .eql 3 qc q35
def q8r:OI:=.pick q1s qc q2
def q8s:OI:=.ld 3 true q1z
def q8t:OI:=.pick q1p qc q2
def q8u:RI:=.op .no qu q7w .fin
def q8v:XR:=.tmp q33
def q8w:OI:=.box 65 q0
def q8x:OI:=.mv q6g
def q8y:RI:=.op .no qu q2h .fin
def q8z:RI:=.op .no q1f q3t .fin
def q90:CJ:=.rg (.op .no q8n .loc q8z)
def q91:OI:=.ld 2 true q1l
def q92:OI:=.call (.lit (.clo 90 [])) [qc]
def q93:OI:=.bin .gtr 5 qc qg
def q94:OI:=.pick qi q1t qc
def q95:OI:=.bin .lss 3 qc q15
def q96:RI:=.op .no qu q5l .fin
def q97:OI:=.bsl 3 1 1 [qc]
def q98:RI:=.op .no (.len q7b) q7l (.op .no q20 q66 .fin)
def q99:CJ:=.rg (.op .no (.bin .lss 3 q67 q7n) q6c .fin)
def q9a:CJ:=.exit 1
def q9b:RI:=.op .no qu q31 .fin
def q9c:OI:=.mv q32
def q9d:OI:=.app 38 3 1 8 qi qc
def q9e:CJ:=.rg (.op .no (.bin .add 3 q67 q35) .loc (.op .no qu q66 .fin))
def q9f:OI:=.call (.lit (.clo 42 [])) [qc]
def q9g:RI:=.op .no (.st 3 q1l qc) .non .fin
def q9h:OI:=.fadr 0 qk
def q9i:DO:=.soft q9h
def q9j:RI:=.op .no q20 qp .fin
def q9k:OI:=.bin .lss 3 qf qc
def q9l:OI:=.ias 4 qt qc
def q9m:OI:=.ld 4 true qc
def q9n:OI:=.alloc 40 [(.int .i64 (.ofNat 0)), (.int .i64 (.ofNat 0)), (.int .u8 (.ofNat 0)), (.con (.slice Option.none 0 0))]
def q9o:RI:=.op .no q9m .loc (.op .no q9n q1y (.op .no (.st 4 q1z qc) .non .fin))
def q9p:DO:=.soft q2f
def q9q:OI:=.fadr 2 q10
def q9r:OI:=.fadr 3 q1z
def q9s:DO:=.soft q8n
def q9t:OI:=.bin .sub 3 qc q35
def q9u:OI:=.bin .geq 3 qc q15
def q9v:CJ:=.exit 2
def q9w:OI:=.ld 3 true q1l
def q9x:OI:=.st 3 qc qt
def q9y:OI:=.bld [(.mk 0 3 qt), q57] [(.int .i64 (.ofNat 0)), (.int .i64 (.ofNat 0)), (.int .u8 (.ofNat 0)), (.con (.slice Option.none 0 0))]
def q9z:OI:=.bsl 40 1 4 [qc]
def qa0:CJ:=.exit 4
def qa1:OI:=.mv q3y
def qa2:OI:=.nt qc
def qa3:DO:=.soft q5p
def qa4:DO:=.soft q9l
def qa5:DO:=.soft q6t
def qa6:OI:=.mv q1t
def qa7:DO:=.soft (.fadr 3 qc)
def qa8:DO:=.hard (.app 38 3 1 8 q1s qc)
def qa9:DI:=.op .no (.hard (.st 1 qc q1p)) .non .fin
def qaa:DI:=.op .no qa4 .loc (.op .no qa7 .loc qa9)
def qab:DI:=.op .no qa8 .loc (.op .no q9s .loc (.op .no qa3 .loc qaa))
def qac:OI:=.app 32 40 4 48 q1s qc
def qad:RI:=.op .no (.st 1 qc qt) .non .fin
def qae:OI:=.call (.lit (.clo 96 [])) [qi, qc]
def qaf:RI:=.op .no qu q7a .fin
def qag:DO:=.soft (.mv q7b)
def qah:DO:=.soft (.mv q7n)
def qai:XD:=.kep (.r (.r q21))
def qaj:XO:=.kep (.r (.r q21))
def qak:XD:=.kep (.l q48)
def qal:XO:=.kep (.l q48)
def qam:OI:=.fadr 1 qc
def qan:XO:=.loc (.s (.s q2t))
def qao:OI:=.fadr 0 q33
def qap:XO:=.loc (.s q2t)
def qaq:BP:=.mk 2 1 qc
def qar:RI:=.op .no (.st 1 qc qi) .non .fin
def qas:OI:=.fadr 3 q0
def qat:RI:=.op .no qw .loc (.op .no q11 .loc (.op .no q74 q13 q1c))
def qau:RI:=.op .no q1m .loc (.op .no (.st 9 qk qt) .non q5g)
def qav:RI:=.op .no (.len q1d) q1b q23
def qaw:CJ:=.rg (.op .no (.bin .lss 3 q33 q1l) q24 .fin)
def qax:CJ:=.cond q27 .skip q2c
def qay:OI:=.alloc 192 [(.int .i64 (.ofNat 0)), (.int .i64 (.ofNat 0)), (.int .u8 (.ofNat 0)), (.int .i64 (.ofNat 0)), (.int .i64 (.ofNat 0)), (.int .u8 (.ofNat 0)), (.con (.slice Option.none 0 0)), (.con (.slice Option.none 0 0)), (.con (.slice Option.none 0 0))]
def qaz:RI:=.op .no (.ld 9 true qc) .loc (.op .no qay qz (.op .no (.st 9 q10 qc) .non .fin))
def qb0:OI:=.fadr 6 qc
def qb1:RI:=.op .no q1f q2h .fin
def qb2:CJ:=.rg (.op .no (.bin .add 3 q33 q35) .loc q37)
def qb3:RS:=.many []
def qb4:RI:=.op .no (.len q1l) q22 q25
def qb5:CJ:=.rg (.op .no (.bin .lss 3 q27 q33) q2h .fin)
def qb6:CJ:=.cond q2i .skip q2c
def qb7:OI:=.fadr 7 q10
def qb8:RI:=.op .no q20 q2a .fin
def qb9:RI:=.op .no (.len qq) q1y qb8
def qba:CJ:=.rg (.op .no (.bin .lss 3 q2b q1z) q31 .fin)
def qbb:OI:=.alloc 195 [(.int .u8 (.ofNat 0)), (.int .i64 (.ofNat 0)), (.int .i64 (.ofNat 0))]
def qbc:OI:=.st 3 q1d qc
def qbd:RI:=.op .no qbc .non .fin
def qbe:DO:=.soft q7z
def qbf:DO:=.soft q4s
def qbg:CJ:=.rg (.op .no (.bin .add 3 q2b q35) .loc q6p)
def qbh:CJ:=.rg (.op .no (.bin .add 3 q27 q35) .loc q39)
def qbi:OI:=.ld 1 false qk
def qbj:OI:=.ld 1 false q10
def qbk:XO:=.lit (.int .u8 (.ofNat 3))
def qbl:XO:=.loc (.s (.s (.s q2t)))
def qbm:RI:=.op .no (.st 1 qk qc) .non .fin
def qbn:CJ:=.rg (.op .no q8x q4 .fin)
def qbo:XR:=.tmp q1d
def qbp:RS:=.many [qbo, q62]
def qbq:OI:=.box 29 qa
def qbr:OI:=.box 31 q0
def qbs:CJ:=.rg (.op .no qbq qj (.op .no qbr qz (.op .no q8x q13 q63)))
def qbt:OI:=.ld 3 true qk
def qbu:OI:=.ld 3 true q10
def qbv:OI:=.call (.lit (.clo 110 [])) [qt, qc]
def qbw:OI:=.ext (.s (.s .z)) qi
def qbx:CJ:=.seq (.rg (.op .no q34 .loc (.op .no q28 .loc (.op .no q74 q13 q1c)))) .ret
def qby:RI:=.op .no q8x qj .fin
def qbz:CJ:=.rg (.op .no q8x q13 .fin)
def qc0:CJ:=.cond q32 .skip q2c
def qc1:OI:=.fadr 0 q1l
def qc2:RI:=.op .no qu .loc (.op .no qw .loc (.op .no q11 .loc (.op .no q74 q22 q39)))
def qc3:OI:=.call (.lit (.clo 112 [])) [qc]
def qc4:CJ:=.rg (.op .no (.bin .lss 3 q5n q4a) q7a .fin)
def qc5:RI:=.op .no qc3 .loc (.op .no (.ias 4 q4l q1s) .loc (.op .no (.st 4 qc qt) .non .fin))
def qc6:CJ:=.rg (.op .no (.bin .add 3 q5n q35) .loc q96)
def qc7:RS:=.one (.cell 3 true q10)
def qc8:DO:=.soft (.bin .quo 3 qc qr)
def qc9:OI:=.bin .rem 3 qc qr
def qca:OI:=.st 3 q10 qc
def qcb:DI:=.op .no (.hard qca) .non .fin
def qcc:OI:=.ld 2 true q10
def qcd:RS:=.one (.cell 3 true qk)
def qce:OI:=.fadr 2 q0
def qcf:OI:=.call (.lit (.clo 119 [])) [qc]
def qcg:OI:=.call (.lit (.clo 118 [])) [qc]
def qch:OI:=.ld 3 true q0
def qci:RI:=.op .no (.st 3 qk qc) .non .fin
def qcj:OI:=.box 65 qa
def qck:OI:=.bld [] [(.int .u8 (.ofNat 0)), (.int .i64 (.ofNat 0)), (.int .i64 (.ofNat 0))]
def qcl:RI:=.op .no qm q1b .fin
def qcm:OI:=.bin .mul 3 q8 qc
def qcn:XO:=.lit (.int .u8 (.ofNat 6))
def qco:XO:=.lit (.int .u8 (.ofNat 5))
def qcp:OI:=.bld [(.mk 0 1 qco), (.mk 1 1 qi), qaq] [(.int .u8 (.ofNat 0)), (.int .i64 (.ofNat 0)), (.int .i64 (.ofNat 0))]
def qcq:BP:=.mk 0 1 (.lit (.int .u8 (.ofNat 7)))
def qcr:OI:=.bld [qcq, (.mk 1 1 qi), qaq] [(.int .u8 (.ofNat 0)), (.int .i64 (.ofNat 0)), (.int .i64 (.ofNat 0))]
def qcs:OI:=.call (.lit (.clo 121 [])) [qc]
def qct:CJ:=.rg (.op .no qb q2a q3u)
def qcu:RI:=.op .no q9m .loc (.op .no q9n q24 (.op .no q5q q22 (.op .no (.st 4 q27 qc) .non .fin)))
def qcv:OI:=.st 3 q2i qt
def qcw:CJ:=.rg (.op .no qbt .loc (.op .no qbu .loc (.op .no qbv .loc (.op .no qu .loc (.op .no qw .loc (.op .no q11 .loc (.op .no qbw .loc (.op .no q5q q22 (.op .no q74 .loc (.op .no q74 q24 .fin))))))))))
def qcx:RI:=.op .no qu q3w .fin
def qcy:RI:=.op .no qu q13 q63
def qcz:XO:=.lit (.int .u8 (.ofNat 0))
def qd0:OI:=.mv qcz
def qd1:OI:=.alloc 100 [(.int .i64 (.ofNat 0)), (.int .u8 (.ofNat 0))]
def qd2:RI:=.op .no q20 q13 q63
def qd3:OI:=.call (.lit (.clo 140 [])) [qt, qc]
def qd4:RI:=.op .no qu .loc (.op .no qw .loc (.op .no q11 .loc (.op .no q8k q22 (.op .no (.st 3 q33 qt) .non q39))))
def qd5:RI:=.op .no q20 q13 q1c
def qd6:OI:=.ld 3 true q33
def qd7:OI:=.call (.lit (.clo 141 [])) [qt, qc]
def qd8:CJ:=.seq (.rg (.op .no q20 q13 q8a)) .ret
def qd9:CJ:=.rg (.op .no q20 q4 .fin)
def qda:CJ:=.rg (.op .no qb q13 qav)
def qdb:RI:=.op .no qm .loc q5g
def qdc:OI:=.bin .neq 3 qt qc
def qdd:CJ:=.cond q2i (.seq (.rg (.op .no q8l .loc q3e)) .ret) .skip
def qde:CJ:=.seq (.rg (.op .no q80 .loc q3e)) .ret
def qdf:OI:=.call (.lit (.clo 146 [])) [qc]
def qdg:OI:=.mv (.lit (.int .i64 (Int.negSucc 0)))
def qdh:CJ:=.seq (.rg (.op .no qdg qj .fin)) .ret
def qdi:CJ:=.seq (.rg (.op .no q8l q1b .fin)) (.cond q1l (.seq (.seq (.rg (.op .no q1e q22 .fin)) (.cond q33 q4c .skip)) qdh) .skip)
def qdj:CJ:=.seq (.rg (.op .no q1e q24 .fin)) (.cond q27 q4p .skip)
def qdk:OI:=.bin .lss 3 qt qc
def qdl:RI:=.op .no q4s .loc (.op .no qdk q2h .fin)
def qdm:OI:=.bin .gtr 3 qt qc
def qdn:CJ:=.cond qq q4p .skip
def qdo:OI:=.bld [(.mk 0 1 q6), q42] [(.int .u8 (.ofNat 0)), (.int .i64 (.ofNat 0)), (.int .i64 (.ofNat 0))]
def qdp:OI:=.bld [(.mk 0 1 qcn), qaq] [(.int .u8 (.ofNat 0)), (.int .i64 (.ofNat 0)), (.int .i64 (.ofNat 0))]
def qdq:OI:=.bin .neq 3 qc q15
def qdr:OI:=.pick q1p q1t qc
def qds:RI:=.op .no (.len q33) q24 (.op .no q20 q2h .fin)
def qdt:CJ:=.rg (.op .no (.bin .lss 3 q2i q27) qp .fin)
def qdu:OI:=.bin .gtr 3 qc q15
def qdv:XG:=.yes q1s true
def qdw:XG:=.yes q4l true
def qdx:XG:=.yes qbl false
def qdy:XO:=.loc (.s (.s (.s (.s q2t))))
def qdz:CJ:=.rg (.op .no (.bin .add 3 q2i q35) .loc q8y)
def qe0:RI:=.op .no qm q2h (.op .no (.len q2i) qp (.op .no q20 q1y .fin))
def qe1:CJ:=.rg (.op .no (.bin .lss 3 q1z qq) q2a .fin)
def qe2:RI:=.op .no q2f .loc (.op .no q8k q24 (.op .no q5q q22 q40))
def qe3:DO:=.soft qcc
def qe4:OI:=.ld 3 true q27
def qe5:CJ:=.rg (.op .no (.bin .add 3 q1z q35) .loc q6n)
def qe6:OI:=.box 165 qa
def qe7:OI:=.fadr 3 q1d
def qe8:OI:=.ias 1 q1p qc
def qe9:OI:=.bin .geq 3 qt qc
def qea:OI:=.call (.lit (.clo 148 [])) [qt, qc]
def qeb:CJ:=.seq (.rg (.op .no (.mv q9) q1b .fin)) .ret
def qec:RS:=.one q5a
def qed:RI:=.op .no q8x qz .fin
def qee:CJ:=.rg (.op .no qe6 qj qed)
def qef:RS:=.many [(.cell 3 true q10), qbo]
def qeg:RI:=.op .no (.st 2 q2i qc) .non .fin
def qeh:OI:=.call (.lit (.clo 68 [])) [q1p, qi, qc]
def qei:RI:=.op .no qu .loc (.op .no qw .loc (.op .no q11 .loc (.op .no q74 qp q71)))
def qej:OI:=.bin .eql 82 qc qcz
def qek:DO:=.soft q19
def qel:XG:=.yes qap true
def qem:DO:=.soft (.pick qan qc q2)
def qen:CJ:=.rg (.op .no (.mv qbk) q1y .fin)
def qeo:OI:=.bin .neq 82 qc qcz
def qep:XG:=.yes qan true
def qeq:OI:=.fadr 2 q1l
def qer:BP:=.mk 0 1 qf
def qes:OI:=.st 3 q10 qt
def qet:RI:=.op .no qm q6r (.op .no (.len q6s) q6u (.op .no q20 q76 .fin))
def qeu:CJ:=.rg (.op .no (.bin .lss 3 q77 q6v) q7d .fin)
def qev:CJ:=.rg (.op .no (.bin .add 3 q77 q35) .loc (.op .no qu q76 .fin))
def qew:XD:=.kep (.r q48)
def qex:XO:=.kep (.r q48)
def qey:XD:=.kep (.l q5k)
def qez:XO:=.kep (.l q5k)
def qf0:XD:=.kep (.r q5k)
def qf1:XD:=.kep (.l q79)
def qf2:XO:=.kep (.l q79)
def qf3:XO:=.kep (.r q5k)
def qf4:OI:=.bin .quo 3 qc q8
def qf5:RI:=.op .no (.call (.lit (.clo 128 [])) [qc]) .loc .fin
def qf6:OI:=.call (.lit (.clo 153 [])) [qt, qc]
def qf7:RI:=.op .no qu q6j .fin
def qf8:DO:=.soft q8l
def qf9:RI:=.op .no (.st 3 q1d qt) .non q71
def qfa:RI:=.op .no (.st 3 q33 qc) .non .fin
def qfb:OI:=.fadr 0 q1d
def qfc:DO:=.soft q1m
def qfd:DO:=.soft q2e
def qfe:CJ:=.rg (.op .no q7y qj qed)
def qff:RI:=.op .no q1x .loc (.op .no q83 q1b .fin)
def qfg:DO:=.soft qb
def qfh:DO:=.soft qbt
def qfi:OI:=.bin .lss 3 qc (.lit (.int .i64 (Int.negSucc 4095)))
def qfj:OI:=.bin .gtr 3 qc (.lit (.int .i64 (.ofNat 4096)))
def qfk:RI:=.op .no q4h qz .fin
def qfl:OI:=.call (.lit (.clo 157 [])) [qc]
def qfm:RI:=.op .no q8x q1b .fin
def qfn:OI:=.bin .lss 3 qc q17
def qfo:OI:=.call (.lit (.clo 158 [])) [qi, qt, qc]
def qfp:OI:=.bin .mul 3 q17 qc
def qfq:OI:=.bin .add 3 qt qc
def qfr:XG:=.yes q4l false
def qfs:DO:=.soft q3s
def qft:DO:=.hard (.call (.lit (.clo 94 [])) [qc, q1p])
def qfu:DO:=.alloc 37 [(.int .i64 (.ofNat 0)), (.int .i64 (.ofNat 0)), (.int .u8 (.ofNat 0))] 0
def qfv:RS:=.one qbo
def qfw:RI:=.op .no qd0 q13 .fin
def qfx:OI:=.call (.lit (.clo 160 [])) [qc]
def qfy:OI:=.alloc 267 [(.int .i64 (.ofNat 0)), (.int .i64 (.ofNat 0))]
def qfz:RI:=.op .no qfy q1b (.op .no (.st 2 q1l qc) .non .fin)
def qg0:OI:=.fadr 1 q1l
def qg1:OI:=.bin .add 3 qi qc
def qg2:OI:=.bin .sub 3 qi qc
def qg3:OI:=.fadr 1 qk
def qg4:OI:=.bin .mul 3 q9 qc
def qg5:CJ:=.seq (.rg (.op .no (.mv qg) q13 .fin)) .ret
def qg6:RS:=.one (.cell 3 true q1d)
def qg7:OI:=.box 31 qa
def qg8:DO:=.hard (.call (.lit (.clo 161 [])) [qt, qc])
def qg9:DO:=.hard (.call (.lit (.clo 161 [])) [qc, qt])
def qga:DO:=.alloc 267 [(.int .i64 (.ofNat 0)), (.int .i64 (.ofNat 0))] 0
def qgb:DO:=.soft (.bld [(.mk 0 1 q9), (.mk 1 1 q15)] [(.int .i64 (.ofNat 0)), (.int .i64 (.ofNat 0))])
def qgc:DO:=.soft (.bld [(.mk 0 1 q15), (.mk 1 1 q9)] [(.int .i64 (.ofNat 0)), (.int .i64 (.ofNat 0))])
def qgd:CJ:=.cond q1z .skip q2c
def qge:DO:=.hard (.call (.lit (.clo 162 [])) [qc, q9])
def qgf:DO:=.alloc 31 [(.int .u8 (.ofNat 0)), (.int .i64 (.ofNat 0)), (.int .i64 (.ofNat 0))] 0
def qgg:OI:=.ld 2 true q33
def qgh:DO:=.soft (.bin .eql 267 qt qc)
def qgi:OI:=.ld 2 true q27
def qgj:OI:=.app 32 40 4 48 qt qc
def qgk:CJ:=.rg (.op .no q4n qz .fin)
def qgl:CJ:=.rg (.op .no q8l .loc q3l)
def qgm:DO:=.soft qdu
def qgn:DO:=.soft q9t
def qgo:DO:=.soft (.ias 4 qi qc)
def qgp:XG:=.yes qbl true
def qgq:XG:=.yes qdy true
def qgr:DO:=.soft (.pick (.loc q2x) qc q2)
def qgs:DO:=.soft q9m
def qgt:CJ:=.rg (.op .no q1e .loc (.op .no q9t .loc q3l))
def qgu:CJ:=.rg (.op .no q8l .loc (.op .no q36 .loc q5g))
def qgv:CJ:=.seq (.rg (.op .no q8x q13 q63)) .ret
def qgw:RI:=.op .no (.st 1 qc q1t) .non .fin
def qgx:CJ:=.rg (.op .no qa6 q1y .fin)
def qgy:DO:=.soft q6q
def qgz:DO:=.soft (.bin .neq 31 qt qc)
def qh0:RI:=.op .no (.ias 3 q1p qf) .loc (.op .no q9x .non (.op .no (.ias 1 qf qi) .loc qgw))
def qh1:CJ:=.cond q33 .skip q2c
def qh2:CJ:=.seq (.rg (.op .no (.mv qn) q13 .fin)) .ret
def qh3:DO:=.soft (.ias 3 qi qc)
def qh4:DO:=.soft (.bin .eql 3 q1s qc)
def qh5:Pu:=.s (.s (.s (.s (.s (.s (.s q30))))))
def qh6:DO:=.soft (.pick qdy qc q2)
def qh7:Pu:=.s (.s (.s (.s (.s (.s (.s (.s (.s (.s (.s (.s (.s (.s qh5)))))))))))))
def qh8:OI:=.pick (.loc (.s qh5)) q1t qc
def qh9:CJ:=.rg (.op .no q8l .loc (.op .no q9t .loc q5g))
def qha:OI:=.call (.lit (.clo 167 [])) [qc]
def qhb:RI:=.op .no (.st 1 qc qf) .non .fin
def qhc:OI:=.call (.lit (.clo 47 [])) [qt, qc]
def qhd:RI:=.op .no (.len q7n) q66 (.op .no q20 q6c .fin)
def qhe:CJ:=.rg (.op .no (.bin .lss 3 q6d q67) q6j .fin)
def qhf:RI:=.op .no q9m .loc (.op .no q9n qp (.op .no (.st 4 qq qc) .non .fin))
def qhg:OI:=.nilc qc
def qhh:CJ:=.rg (.op .no (.bin .add 3 q6d q35) .loc (.op .no qu q6c .fin))
def qhi:OI:=.fadr 7 qc
def qhj:OI:=.alloc 281 [(.int .i64 (.ofNat 0)), (.int .i64 (.ofNat 0)), (.int .u8 (.ofNat 0)), (.int .i64 (.ofNat 0)), (.int .i64 (.ofNat 0)), (.int .u8 (.ofNat 0))]
def qhk:DO:=.soft qhg
def qhl:DO:=.soft qb0
def qhm:RI:=.op .no (.len q6v) q76 (.op .no q20 q7d .fin)
def qhn:CJ:=.rg (.op .no (.bin .lss 3 q7e q77) q7g .fin)
def qho:OI:=.alloc 291 [(.int .i64 (.ofNat 0)), (.int .i64 (.ofNat 0))]
def qhp:OI:=.iaa 2 1 q3v q15
def qhq:OI:=.bin .gtr 3 qi qc
def qhr:OI:=.iaa 2 1 q3v q35
def qhs:CJ:=.rg (.op .no qa6 q1b .fin)
def qht:OI:=.iaa 2 1 q4a q15
def qhu:OI:=.iaa 2 1 q4a q35
def qhv:CJ:=.rg (.op .no (.bin .add 3 q7e q35) .loc (.op .no qu q7d .fin))
def qhw:XO:=.kep (.r q7k)
def qhx:XO:=.kep (.l q6b)
def qhy:DO:=.soft (.iaa 2 1 q1d q15)
def qhz:XO:=.lit (.clo 75 [])
def qi0:DO:=.hard (.call qhz [q1s, qc])
def qi1:DO:=.soft q95
def qi2:XR:=.cell 2 true q1d
def qi3:RS:=.one qi2
def qi4:OI:=.fadr 1 q10
def qi5:DO:=.soft qi4
def qi6:CJ:=.rg (.op .no qd0 q1y .fin)
def qi7:OI:=.ld 2 true qk
def qi8:OI:=.call (.lit (.clo 68 [])) [qi, qt, qc]
def qi9:RI:=.op .no qu .loc (.op .no qw .loc (.op .no q11 .loc (.op .no q74 q2h q6h)))
def qia:OI:=.bld [(.mk 0 1 qt), q42] [(.int .i64 (.ofNat 0)), (.int .u8 (.ofNat 0))]
def qib:OI:=.st 2 q1d qc
def qic:RI:=.op .no qib .non .fin
def qid:OI:=.bld [] [(.int .i64 (.ofNat 0)), (.int .u8 (.ofNat 0))]
def qie:OI:=.box 37 qa
def qif:CJ:=.rg (.op .no qie qj (.op .no q7y qz q4w))
def qig:OI:=.bld [q41, q42] [(.int .i64 (.ofNat 0)), (.int .i64 (.ofNat 0))]
def qih:OI:=.fadr 2 qk
def qii:OI:=.bld [qer, q42] [(.int .i64 (.ofNat 0)), (.int .i64 (.ofNat 0))]
def qij:OI:=.call (.lit (.clo 181 [])) [qc]
def qik:RI:=.op .no q1f q3w .fin
def qil:RI:=.op .no q8x q13 (.op .no q8x q1b q37)
def qim:CJ:=.seq (.rg (.op .no q5t .loc qil)) .ret
def qin:DO:=.soft (.ld 3 true q3v)
def qio:DO:=.hard (.call (.lit (.clo 125 [])) [qt, qc])
def qip:DO:=.soft q5q
def qiq:CJ:=.seq (.rg (.op .no qb q22 qds)) (.block 0 (.loop (.seq qdt (.seq q84 (.seq (.block 1 (.seq (.rg (.op .no (.ias 1 q33 q2i) .loc qdb)) (.seq (.rg (.op .no q80 .loc (.op .no q8l .loc (.op .no q1x .loc (.op .no qg1 .loc q3n))))) (.seq (.rg (.op .no q80 .loc (.op .no q95 q1y .fin))) (.cond q1z (.rg (.op .no (.gen (.makeInterface 9 (.const (.string (ByteArray.mk (Array.mk [(UInt8.ofNat 108), (UInt8.ofNat 101), (UInt8.ofNat 110), (UInt8.ofNat 32), (UInt8.ofNat 111), (UInt8.ofNat 117), (UInt8.ofNat 116), (UInt8.ofNat 32), (UInt8.ofNat 111), (UInt8.ofNat 102), (UInt8.ofNat 32), (UInt8.ofNat 114), (UInt8.ofNat 97), (UInt8.ofNat 110), (UInt8.ofNat 103), (UInt8.ofNat 101)]))))) (rfC 504373101 [])) .loc (.op .no (.gen (.panic (.tmp 21)) (rfC 504373101 [21])) .non .fin))) .skip))))) qdz)))))
def qir:CJ:=.rg (.op .no (.ias 1 q2b q3v) .loc (.op .no qm .loc q1c))
def qis:CJ:=.seq (.rg (.op .no q1e .loc q3e)) .ret
def qit:OI:=.box 40 qa
def qiu:OI:=.call (.lit (.clo 184 [])) [qc]
def qiv:CJ:=.rg (.op .no qb .loc (.op .no q1x .loc q3n))
def qiw:OI:=.gen (.convert 3 250 (.tmp 9)) (rfC 19 [9, 8, 7])
def qix:OI:=.call (.lit (.clo 144 [])) [qc]
def qiy:XO:=.lit (.clo 185 [])
def qiz:OI:=.call (.lit (.clo 106 [])) [qi, qc]
def qj0:CJ:=.cond qk (.seq qbn .ret) .skip
def qj1:OI:=.alloc 243 [(.int .i64 (.ofNat 0)), (.int .i64 (.ofNat 0))]
def qj2:XO:=.lit (.int .i64 (.ofNat 8))
def qj3:OI:=.call (.lit (.clo 188 [])) [qc]
def qj4:RI:=.op .no q3 qj .fin
def qj5:CJ:=.rg qj4
def qj6:RI:=.op .no q9u .loc q3n
def qj7:OI:=.call (.lit (.clo 124 [])) [qc]
def qj8:RS:=.many [(.cell 3 true q1d), q62]
def qj9:DO:=.hard (.st 1 qc q1s)
def qja:XO:=.lit (.clo 191 [])
def qjb:OI:=.call (.lit (.clo 192 [])) [qc]
def qjc:RI:=.op .no (.st 2 q1d qt) .non (.op .no q20 q1b (.op .no q3 q22 q39))
def qjd:OI:=.call (.lit (.clo 194 [])) [qi, qt, qc]
def qje:RI:=.op .no qu .loc (.op .no qw .loc (.op .no q11 .loc (.op .no q74 q2a q9b)))
def qjf:OI:=.call (.lit (.clo 18 [])) [qc]
def qjg:CJ:=.rg (.op .no qi7 .loc (.op .no qjf .loc q37))
def qjh:OI:=.bin .geq 3 qi qc
def qji:OI:=.bin .add 3 qf qc
def qjj:OI:=.call (.lit (.clo 208 [])) [qt, qc]
def qjk:RI:=.op .no q3 qz .fin
def qjl:DO:=.soft (.bin .neq 3 qf qc)
def qjm:RI:=.op .no (.call qt [qc]) .loc .fin
def qjn:CJ:=.rg (.op .no q3 q13 .fin)
def qjo:OI:=.box 84 qa
def qjp:DO:=.hard (.call (.lit (.clo 136 [])) [qi, qc])
def qjq:DO:=.hard (.call (.lit (.clo 73 [])) [qc])
def qjr:DI:=.op .no (.bsl 3 2 1 [q1s, qc] 0) .loc (.op .no qjq .loc q14)
def qjs:CJ:=.rg (.op .no qb .loc (.op .no q1x q13 q63))
def qjt:CJ:=.rg (.op .no (.bin .lss 3 q1l q1d) q22 .fin)
def qju:CJ:=.rg (.op .no q1m .loc q5g)
def qjv:RI:=.op .no (.call q1p [qc]) q24 .fin
def qjw:CJ:=.seq (.rg (.op .no q8l .loc q3n)) .ret
def qjx:CJ:=.cond q27 qjw .skip
def qjy:CJ:=.rg (.op .no (.bin .add 3 q1l q35) .loc q1c)
def qjz:OI:=.mv (.lit (.con (.map Option.none)))
def qk0:OI:=.call (.lit (.clo 67 [])) [qi, qt, qc]
def qk1:OI:=.bin .eql 3 qi qc
def qk2:CJ:=.rg (.op .no q4d qz q4w)
def qk3:CJ:=.seq (.rg (.op .no qdg q13 .fin)) .ret
def qk4:OI:=.bld [(.mk 0 1 qg), q42] [(.int .u8 (.ofNat 0)), (.int .i64 (.ofNat 0))]
def qk5:OI:=.bld [(.mk 0 1 qbk), q42] [(.int .u8 (.ofNat 0)), (.int .i64 (.ofNat 0))]
def qk6:OI:=.bld [(.mk 0 1 q6), q42] [(.int .u8 (.ofNat 0)), (.int .i64 (.ofNat 0))]
def qk7:RS:=.one (.cell 2 true qk)
def qk8:OI:=.alloc 329 [(.int .i64 (.ofNat 0)), (.int .i64 (.ofNat 0)), (.int .i64 (.ofNat 0)), (.int .i64 (.ofNat 0)), (.int .i64 (.ofNat 0)), (.int .i64 (.ofNat 0))]
def qk9:RI:=.op .no (.st 2 qk qc) .non .fin
def qka:OI:=.bld [(.mk 0 1 q1s), q42] [(.int .i64 (.ofNat 0)), (.int .i64 (.ofNat 0))]
def qkb:DO:=.soft qg4
def qkc:OI:=.bin .sub 3 qf qc
def qkd:DI:=.op .no qv q1b .fin
def qke:CJ:=.seq (.rg (.op .no q4n q13 .fin)) .ret
def qkf:CJ:=.seq (.rg q4w) .ret
def qkg:CJ:=.rg (.op .no q9h .loc (.op .no qm .loc (.op .no q1v .loc (.op .no qm .loc (.op .no q81 q1b .fin)))))
def qkh:OI:=.call (.lit (.clo 219 [])) [qi, qc]
def qki:DI:=.op .no q12 .loc (.op .no qv .loc .fin)
def qkj:RI:=.op .no qu .loc (.op .no qw .loc (.op .no q11 .loc (.op .no q74 q24 q8y)))
def qkk:OI:=.fadr 8 qc
def qkl:RI:=.op .no q4t .loc (.op .no (.bsl 334 1 2 [qc]) .loc (.op .no (.app 189 334 2 16 q1p qc) .loc (.op .no (.nilc qap) .loc (.op .no qb0 .loc qar))))
def qkm:DO:=.soft (.fadr 5 qc)
def qkn:RI:=.op .no (.bld [q41, (.mk 1 1 qt), qaq] [(.int .u8 (.ofNat 0)), (.int .i64 (.ofNat 0)), (.int .i64 (.ofNat 0))]) .loc (.op .no (.bsl 195 1 3 [qc]) .loc (.op .no (.app 190 195 3 24 q1s qc) .loc (.op .no (.nilc qan) .loc (.op .no qhi .loc qar))))
def qko:XO:=.lit (.clo 223 [])
def qkp:RI:=.op .no q2f .loc (.op .no q2g q13 qbd)
def qkq:OI:=.call (.lit (.clo 194 [])) [q1p, qi, qc]
def qkr:DO:=.hard (.call (.lit (.clo 248 [])) [qc])
def qks:RI:=.op .no (.st 1 q1l qc) .non .fin
def qkt:OI:=.ld 1 false q1l
def qku:CJ:=.seq (.rg (.op .no q4s .loc (.op .no q95 qz .fin))) (.cond q10 (.rg (.op .no (.gen (.makeInterface 9 (.const (.string (ByteArray.mk (Array.mk [(UInt8.ofNat 99), (UInt8.ofNat 97), (UInt8.ofNat 110), (UInt8.ofNat 110), (UInt8.ofNat 111), (UInt8.ofNat 116), (UInt8.ofNat 32), (UInt8.ofNat 98), (UInt8.ofNat 101), (UInt8.ofNat 32), (UInt8.ofNat 110), (UInt8.ofNat 101), (UInt8.ofNat 103), (UInt8.ofNat 97), (UInt8.ofNat 116), (UInt8.ofNat 105), (UInt8.ofNat 118), (UInt8.ofNat 101)]))))) (rfC 65619 [])) .loc (.op .no (.gen (.panic (.tmp 7)) (rfC 65619 [7])) .non .fin))) .skip)
def qkv:RI:=.op .no qb .loc (.op .no q1x .loc (.op .no qg2 .loc (.op .no (.bin .sub 3 q1s qc) .loc q3e)))
def qkw:CJ:=.rg (.op .no q4s .loc (.op .no qdu q13 .fin))
def qkx:CJ:=.seq (.rg (.op .no qb .loc q3n)) .ret
def qky:CJ:=.rg (.op .no qa6 q22 .fin)
def qkz:OI:=.bin .sub 3 qt qc
def ql0:CJ:=.rg (.op .no q80 .loc (.op .no q4s .loc (.op .no qkz .loc q39)))
def ql1:CJ:=.rg (.op .no q28 .loc (.op .no (.bin .leq 3 qc q7v) q5l .fin))
def ql2:RI:=.op .no (.call (.lit (.clo 253 [])) [qf, qi, qt, qc]) .loc .fin
def ql3:CJ:=.rg (.op .no q8l .loc (.op .no q1r q7a .fin))
def ql4:CJ:=.rg (.op .no q1m .loc (.op .no qa2 q7l .fin))
def ql5:CJ:=.rg (.op .no q5t .loc (.op .no (.bin .eql 315 qc q8) q66 .fin))
def ql6:CJ:=.seq (.rg (.op .no q80 .loc (.op .no q9t .loc (.op .no q8n .loc (.op .no q4s .loc (.op .no qkz .loc (.op .no qkc .loc q8y))))))) (.rg (.op .no q4n qp .fin))
def ql7:CJ:=.rg (.op .no q1m .loc (.op .no qu .loc (.op q2k q34 .loc (.op .no q3d .loc (.op .no qu .loc (.op q2k q5t .loc (.op q2m (.bin .eql 315 qc q35) .loc (.op .no q8m q6c .fin))))))))
def ql8:CJ:=.cond q6l .ret .skip
def ql9:DI:=.op qep (.hard (.call qap [q1p, qc])) .loc (.op qgp qi1 .loc (.op qgq (.soft qa2) .loc (.op .no qgr q6r .fin)))
def qla:CJ:=.seq (.rg (.op .no q6o .loc q3e)) q9a
def qlb:CJ:=.rg (.op .no q9c .loc q37)
def qlc:CJ:=.rg (.op .no q6q .loc (.op .no q4s .loc (.op .no qkz .loc (.op .no q80 .loc (.op .no q6q .loc (.op .no qkz .loc (.op .no (.mv qf) q3t qcx)))))))
def qld:CJ:=.rg (.op .no q28 .loc (.op .no (.bin .quo 3 qc qj2) .loc q5y))
def qle:CJ:=.rg (.op .no q6t .loc (.op .no qa1 .loc (.op .no qdk q6u .fin)))
def qlf:RI:=.op .no q5p .loc (.op .no qe9 .loc q1c)
def qlg:CJ:=.rg (.op .no q6t .loc qlf)
def qlh:CJ:=.rg (.op .no q6q .loc (.op .no q36 .loc q3e))
def qli:CJ:=.rg (.op .no qa1 .loc qlf)
def qlj:CJ:=.rg (.op .no q6q .loc q3n)
def qlk:CJ:=.rg (.op .no q1m .loc q3l)
def qll:CJ:=.rgd (.op .no qbf .loc (.op .no qgm .loc (.op .no qv .loc (.op q2k q54 .loc (.op q2m qfg .loc (.op q2n qbf .loc (.op q2o qgn .loc (.op q8p qh3 .loc (.op qdv q9p .loc (.op qdw qfg .loc (.op q2r q9s .loc (.op q2v qfd .loc (.op qel q9p .loc ql9))))))))))))) 0
def qlm:CJ:=.rg (.op .no q28 .loc qb1)
def qln:RI:=.op .no (.st 2 q1d qt) .non q1c
def qlo:OI:=.box 100 q0
def qlp:OI:=.ld 1 false q0
def qlq:OI:=.ld 1 false q1d
def qlr:OI:=.call (.lit (.clo 211 [])) [qc]
def qls:RI:=.op .no (.bsl 38 3 1 [qi, qt, qc]) .loc (.op .no qlr .loc q3l)
def qlt:CJ:=.rg (.op .no qb .loc (.op .no q1x .loc q37))
def qlu:RI:=.op .no qca .non .fin
def qlv:RI:=.op .no qd .loc (.op .no (.bld [(.mk 0 1 q4l), (.mk 1 1 q1p), qaq] [(.int .i64 (.ofNat 0)), (.int .i64 (.ofNat 0)), (.int .u8 (.ofNat 0))]) .loc qlu)
def qlw:OI:=.bin .add 3 qc q9
def qlx:BP:=.mk 4 2 qc
def qly:CJ:=.seq (.rg (.op .no q1e .loc q5g)) .ret
def qlz:XO:=.lit (.con (.pointer Option.none))
def qm0:DO:=.soft (.ld 6 true q33)
def qm1:DO:=.soft (.ias 6 qi qc)
def qm2:DO:=.soft (.ld 6 true qc)
def qm3:DO:=.soft (.ias 6 qt qc)
def qm4:XO:=.lit (.clo 291 [])
def qm5:DO:=.hard (.call qhz [q2u, qc])
def qm6:XO:=.lit (.clo 292 [])
def qm7:XO:=.lit (.clo 293 [])
def qm8:CJ:=.rg (.op .no q4s .loc (.op .no q36 .loc q3l))
def qm9:CJ:=.seq (.rg (.op .no q1e .loc (.op .no q80 .loc (.op .no qdk q22 .fin)))) qh1
def qma:CJ:=.rg (.op .no q1e .loc q1c)
def qmb:DO:=.soft qdm
def qmc:DI:=.op qep (.hard (.call qap [q1s, qc])) .loc (.op qgp qi1 .loc (.op .no qh6 q24 .fin))
def qmd:CJ:=.cond q27 .skip q9v
def qme:DO:=.softw q9t 1 (.binOp .sub 3 (.tmp 40) (.const (.int .i64 (.ofNat 1))) 3) (rfR 17179886351 [40, 39, 51, 50, 49, 48, 47, 46, 45, 44, 43, 42, 38, 37] [40])
def qmf:CJ:=.rg (.op .no q1m .loc (.op .no q9t .loc q1c))
def qmg:CJ:=.rg (.op .no (.box 243 qa) q4 q3h)
def qmh:OI:=.bin .lss 3 qc (.lit (.int .i64 (Int.negSucc 65535)))
def qmi:OI:=.bin .gtr 3 qc (.lit (.int .i64 (.ofNat 65536)))
def qmj:DO:=.hard (.call q1s [qt, qc])
def qmk:DO:=.soft (.ias 2 qi qc)
def qml:DO:=.soft (.ias 2 qt qc)
def qmm:RI:=.op .no qa1 .loc (.op .no qe9 .loc q3l)
def qmn:RS:=.one (.cell 2 true q10)
def qmo:CJ:=.rg (.op .no (.box 243 q0) qj (.op .no qj1 qz .fin))
def qmp:RI:=.op .no (.st 2 q10 qc) .non .fin
def qmq:DO:=.soft (.iaa 5 1 qk qc)
def qmr:DO:=.soft (.bld [(.mk 0 1 q1p), q42] [(.int .u8 (.ofNat 0)), (.int .i64 (.ofNat 0))])
abbrev TOK (x : FnI) : Prop := TabOK Go.Proofs.Tryz.prog [x]
abbrev xiM (f : FuncId) (fn : Func) (m : Nat) : FnI := ⟨f, fn.ntmps, m, fn.results.toList, fn.body.getD .skip⟩
end
end Go.Proofs.YtmhhmaopnjfcgaaGreatDoor.V.I
namespace Go.Proofs.YtmhhmaopnjfcgaaGreatDoor.V.I
open Go Go.Proofs.Tryz
noncomputable section
set_option maxRecDepth 100000
noncomputable def xi7 := xiM 7 f7 77371252491928014153712637
theorem xk7 : TOK xi7 := tabOK1 func7 (by kernel_rfl) (by kernel_rfl) rfl rfl
noncomputable def cf7 : FnC := (.mk 77371252491928014153712637 104 q1 (.seq q5 (.seq (.rg (.op .no q7 .loc (.op .no (.bsl 3 2 1 [q8, q9]) .loc (.op .no qb .loc (.op .no qd .loc (.op .no (.bld [(.mk 0 2 qf), qh, (.mk 3 1 qi), (.mk 4 1 qc)] [(.int .u8 (.ofNat 0)), (.int .i64 (.ofNat 0)), (.int .u8 (.ofNat 0)), (.con (.slice Option.none 0 0)), (.int .u8 (.ofNat 0)), (.int .i64 (.ofNat 0))]) .loc (.op .no (.alloc 78 [(.int .u8 (.ofNat 0)), (.int .i64 (.ofNat 0)), (.int .u8 (.ofNat 0)), (.con (.slice Option.none 0 0)), (.int .u8 (.ofNat 0)), (.int .i64 (.ofNat 0))]) qj ql))))))) (.seq (.seq (.rg (.op .no (.fadr 4 qk) .loc (.op .no qm .loc (.op .no (.bin .eql 76 qc qn) qp .fin)))) (.cond qq (.rg (.op .no (.fadr 5 qk) .loc (.op .no (.st 1 qc qr) .non .fin))) .skip)) (.seq (.rgd (.op .no qs .loc (.op .no (.softw (.ld 6 true qk) 1 (.load 78 (.tmp 3)) (rfR 77371252491928014153712637 [20] [3])) .loc (.op .no (.hard (.call (.lit (.clo 27 [])) [qt, qc])) .loc (.op .no qv .loc (.op .no qx .loc (.op .no (.alloc 34 [(.int .i64 (.ofNat 0)), (.int .i64 (.ofNat 0)), (.con (.slice Option.none 0 0)), (.int .u8 (.ofNat 0)), (.int .i64 (.ofNat 0)), (.int .i64 (.ofNat 0)), (.con (.slice Option.none 0 0))] 0) qz (.op .no (.hard (.st 7 q10 qc)) .non (.op .no q12 .loc q14)))))))) 2) (.seq (.rg (.op .no (.bsl 3 4 1 [q15, qr, q16, q17]) .loc (.op .no (.bsl 3 4 1 [q16, q17, q15, qr]) .loc (.op .no q18 .loc (.op .no (.bsl 3 4 1 [q17, q15, qr, q16]) .loc (.op .no (.bsl 38 4 1 [qf, qi, qt, qc]) .loc (.op .no qb .loc (.op .no qd .loc (.op .no q19 .loc (.op .no qm .loc q1c)))))))))) (.seq (.seq (.rg (.op .no q1e .loc (.op .no q1f .loc (.op .no qu .loc (.op q1g q1h .loc (.op q1i q1j .loc (.op q1k q1m .loc (.op q1n q1o .loc (.op q1q q1r .loc (.op .no q1u .loc (.op .no qu .loc (.op q1g q1v .loc (.op q1i q1w .loc (.op q1k qm .loc (.op q1n q1x .loc (.op q1q (.bin .neq 3 qc q16) .loc (.op .no q1u q1y .fin))))))))))))))))) (.cond q1z (.seq q5 .ret) .skip)) (.seq (.rg q23) (.seq (.seq q26 (.block 0 (.loop (.seq (.seq (.rg (.op .no q28 .loc (.op .no q1v .loc (.op .no q1w .loc (.op .no qm .loc (.op .no q1x .loc (.op .no q29 q2a .fin))))))) q2d) (.seq (.block 1 (.seq (.rg (.op .no q1v .loc (.op .no q1w .loc (.op .no qm .loc (.op .no q28 .loc (.op .no q2e .loc (.op .no q2f .loc (.op .no q2g q2h q2j)))))))) (.seq (.rg (.op .no (.fadr 2 q2i) .loc (.op .no qm .loc (.op .no (.bin .eql 82 qc qn) .loc (.op .no qu .loc (.op q2k q2l .loc (.op q2m qm .loc (.op q2n q1r .loc (.op q2o qu .loc (.op q2k q2p .loc (.op q2m qm .loc (.op q2n (.bin .eql 5 qc qn) .loc (.op q2r q2s .loc (.op q2v qu .loc (.op q1g q2l .loc (.op q1i qm .loc (.op q1k (.bin .eql 3 qc qr) .loc (.op q1n qu .loc (.op q2k q2p .loc (.op q2m qm .loc (.op q2n (.bin .eql 5 qc qg) .loc (.op q2w q2s .loc (.op (.yes q2y true) q2z .loc (.op .no (.pick (.loc q30) qc q2) q31 .fin)))))))))))))))))))))))) (.cond q32 q38 .skip)))) q3a))))) (.seq (.rg (.op .no q34 .loc (.op .no (.bsl 3 4 1 [q35, q35, q8, q15]) .loc (.op .no qb .loc (.op .no qd .loc (.op .no q19 .loc (.op .no qm .loc (.op .no (.bin .eql 3 q1s qc) .loc (.op .no qu .loc (.op q2k q1h .loc (.op q2m q3b .loc (.op q2n q3c .loc (.op .no q2s .loc (.op .no qu .loc (.op q2k (.call (.lit (.clo 30 [])) []) .loc (.op .no q3d .loc q3e)))))))))))))))) .ret))))))))))
theorem ck7 : compF Tryz.prog xi7 = some cf7 := by kernel_rfl
noncomputable def xi10 := xiM 10 f10 17593194840959
theorem xk10 : TOK xi10 := tabOK1 func10 (by kernel_rfl) (by kernel_rfl) rfl rfl
noncomputable def cf10 : FnC := (.mk 17593194840959 45 q3f (.seq (.rg (.op .no q3g q4 q3h)) (.seq (.rg (.op .no q3i .loc (.op .no q3j .loc (.op .no qu .loc (.op .no qw .loc (.op .no q11 .loc (.op .no q3k qz (.op .no (.st 9 q10 qt) .non q3l)))))))) (.seq (.seq (.rg (.op .no q1e .loc q3m)) (.cond qq (.seq (.rg (.op .no q1e .loc q3n)) .ret) .skip)) (.seq (.seq (.rg (.op .no q3o .loc (.op .no (.call (.lit (.clo 35 [])) [qc]) .loc q1c))) (.seq (.rg (.op .no q1m .loc (.op .no q1f q1y .fin))) (.cond q1z q3p .skip))) (.seq (.rg (.op .no (.gen (.makeMap 98 Option.none) (rfC 17593194840959 [])) .loc (.op .no q3q q22 q3r))) (.seq (.seq (.rg (.op .no q3s .loc (.op .no q1w .loc (.op .no qm q2a q3u)))) (.block 0 (.loop (.seq q3x (.seq q3z (.seq (.block 1 (.seq (.rg (.op .no (.ias 3 q2b q3v) .loc (.op .no q2f .loc (.op .no q2g q24 q40)))) (.rg (.op .no (.ld 1 false q33) .loc (.op .no (.fadr 0 q27) .loc (.op .no qm .loc (.op .no (.fadr 1 q27) .loc (.op .no qm .loc (.op .no q43 .loc (.op .no (.fadr 2 q27) .loc (.op .no qm .loc (.op .no (.gen (.mapUpdate 98 (.tmp 32) (.tmp 37) (.tmp 39)) (rfC 17593194840959 [39, 38, 37, 36, 35, 34, 33, 32])) .non .fin)))))))))))) q45)))))) (.seq (.rg (.op .no q46 q2h (.op .no (.st 1 q2i q2) .non .fin))) (.seq (.rg (.op .no q3o .loc (.op .no (.gen (.makeFunc (Fn.func 37) (Array.mk []) (Array.mk [(.tmp 9), (.tmp 6)])) (rfC 17593194840959 [41])) .loc q47))) (.seq (.seq (.rg (.op .no (.ld 1 false q2i) q49 .fin)) (.cond q4a (.seq (.rg (.op .no (.mv (.lit (.int .i64 (.ofNat 13)))) qj .fin)) .ret) .skip)) q4c))))))))))
theorem ck10 : compF Tryz.prog xi10 = some cf10 := by kernel_rfl
noncomputable def xi18 := xiM 18 f18 268435463
theorem xk18 : TOK xi18 := tabOK1 func18 (by kernel_rfl) (by kernel_rfl) rfl rfl
noncomputable def cf18 : FnC := (.mk 268435463 29 q3f (.seq q4e (.seq (.seq (.rg (.op .no q3s .loc (.op .no qm .loc (.op .no q4f .loc (.op .no qu .loc (.op q1g q4g .loc (.op q1i qm .loc (.op q1k q4f .loc (.op .no q4h .loc (.op .no qu .loc (.op q1g q3s .loc (.op q1i qm .loc (.op q1k q4i .loc (.op .no q4h .loc (.op .no qu .loc (.op q1g q4g .loc (.op q1i qm .loc (.op q1k q4i .loc (.op .no q4h .loc (.op .no qu .loc (.op q1g q3s .loc (.op q1i qm .loc (.op q1k q4g .loc (.op q1n qm .loc (.op q1q q4j .loc (.op q4k q4i .loc (.op .no q4m qz .fin))))))))))))))))))))))))))) q4q) q4c)))
theorem ck18 : compF Tryz.prog xi18 = some cf18 := by kernel_rfl
noncomputable def xi21 := xiM 21 f21 131187
theorem xk21 : TOK xi21 := tabOK1 func21 (by kernel_rfl) (by kernel_rfl) rfl rfl
noncomputable def cf21 : FnC := (.mk 131187 34 (.one (.cell 7 true qk)) (.seq (.rg (.op .no q4r qj .fin)) (.seq (.rg (.op .no qb .loc (.op .no q4s .loc (.op .no q4t .loc (.op .no q4u .loc (.op .no (.bld [(.mk 0 3 qc)] [(.int .i64 (.ofNat 0)), (.int .i64 (.ofNat 0)), (.con (.slice Option.none 0 0)), (.int .u8 (.ofNat 0)), (.int .i64 (.ofNat 0)), (.int .i64 (.ofNat 0)), (.con (.slice Option.none 0 0))]) .loc (.op .no q4r qz q4v))))))) (.seq (.seq (.rg q4w) (.block 0 (.loop (.seq (.seq (.rg (.op .no q1e .loc (.op .no qb .loc (.op .no q4x .loc (.op .no q4s .loc (.op .no (.bin .mul 3 qt qc) .loc (.op .no q29 q1b .fin))))))) q4y) (.seq (.block 1 (.rgd (.op .no q4z .loc (.op .no q51 .loc (.op .no q53 .loc (.op .no q54 .loc (.op .no q56 .loc (.op .no (.soft (.fadr 6 q10)) .loc (.op .no (.softw qm 1 (.load 32 (.tmp 20)) (rfR 131187 [20, 26, 25, 24, 23, 22] [20])) .loc (.op .no q54 .loc (.op .no (.bsl 3 1 1 [qc] 0) .loc (.op .no (.soft (.bld [(.mk 0 3 q1p), q57] [(.int .i64 (.ofNat 0)), (.int .i64 (.ofNat 0)), (.int .u8 (.ofNat 0)), (.con (.slice Option.none 0 0))])) .loc (.op .no (.bsl 40 1 4 [qc] 2) .loc (.op .no (.hard q58) .loc (.op .no (.soft (.fadr 6 q10)) .loc (.op .no (.hard (.st 1 qc qt)) .non .fin)))))))))))))) 4)) q59))))) (.seq (.rg (.op .no q1h .loc (.op .no (.st 7 qk qc) .non .fin))) .ret)))))
theorem ck21 : compF Tryz.prog xi21 = some cf21 := by kernel_rfl
noncomputable def xi22 := xiM 22 f22 257706444799
theorem xk22 : TOK xi22 := tabOK1 func22 (by kernel_rfl) (by kernel_rfl) rfl rfl
noncomputable def cf22 : FnC := (.mk 257706444799 55 q5b (.seq (.rg (.op .no q3g q4 (.op .no q5c qj q5d))) (.seq (.seq (.rg (.op .no q3i .loc (.op .no q3b .loc q3l))) (.seq (.rg (.op .no q1e .loc q5e)) (.cond q2b (.seq (.rg (.op .no q5f .loc (.op .no q1e .loc q5h))) .ret) .skip))) (.seq (.rg (.op .no q3i .loc (.op .no q3j .loc (.op .no qu .loc (.op .no qw .loc (.op .no q11 .loc (.op .no q3k q1b (.op .no (.st 9 q1l qt) .non q37)))))))) (.seq (.seq (.rg (.op .no q34 .loc (.op .no q1f q31 .fin))) (.cond q32 (.seq (.rg (.op .no q5f .loc (.op .no q34 .loc q5h))) .ret) .skip)) (.seq (.rg (.op .no (.gen (.makeMap 98 Option.none) (rfC 257706444799 [])) .loc (.op .no q3q q24 q5i))) (.seq (.rg (.op .no (.ld 9 true q1l) .loc (.op .no (.gen (.makeFunc (Fn.func 54) (Array.mk []) (Array.mk [(.tmp 7)])) (rfC 257706444799 [27])) .loc q47))) (.seq (.rg (.op .no q3s .loc (.op .no q2f .loc (.op .no (.call (.lit (.clo 55 [])) [qc]) .loc (.op .no q5c q2h q2j))))) (.seq (.seq (.rg (.op .no (.fadr 2 q2i) .loc q5j)) (.block 0 (.loop (.seq q5m (.seq q5o (.seq (.block 1 (.seq (.rg (.op .no q5p .loc (.op .no (.ias 3 q3v q4a) .loc (.op .no q2f .loc (.op .no q2g q1y (.op .no q5q qp q5r)))))) (.rgd (.op .no (.soft (.fadr 2 q2i)) .loc (.op .no q5s .loc (.op .no (.soft q5t) .loc (.op .no q5u .loc (.op .no (.soft q5v) .loc (.op .no q5s .loc (.op .no (.soft (.fadr 1 q1z)) .loc (.op .no q5s .loc (.op .no (.soft q43) .loc (.op .no (.soft (.gen (.lookup 98 (.tmp 44) (.tmp 49) false) (rfR 257706444799 [49, 48, 47, 46, 45, 44, 43, 42, 41] [44, 49]))) .loc (.op .no (.soft (.ias 3 q2u q2q)) .loc q5x))))))))))) 0))) q5z)))))) (.seq (.rg (.op .no q60 .loc q61)) .ret))))))))))
theorem ck22 : compF Tryz.prog xi22 = some cf22 := by kernel_rfl
noncomputable def xi27 := xiM 27 f27 10881522665550846638597651018252287
theorem xk27 : TOK xi27 := tabOK1 func27 (by kernel_rfl) (by kernel_rfl) rfl rfl
noncomputable def cf27 : FnC := (.mk 10881522665550846638597651018252287 117 (.many [(.cell 7 true q1d), q62]) (.seq (.rg (.op .no q3g qj (.op .no (.box 78 q0) qz (.op .no q4r q13 q63)))) (.seq (.seq (.rg (.op .no q64 .loc (.op .no q3b .loc q37))) (.seq (.rg (.op .no q34 .loc (.op .no q1f q66 .fin))) (.cond q67 (.seq (.rg (.op .no q68 .loc (.op .no q34 .loc q69))) .ret) .skip))) (.seq (.seq (.rg (.op .no q6a .loc (.op .no (.call (.lit (.clo 81 [])) [qc]) .loc q39))) (.seq (.rg (.op .no q28 .loc (.op .no q1f q6c .fin))) (.cond q6d (.seq (.rg (.op .no q68 .loc (.op .no q28 .loc q69))) .ret) .skip))) (.seq (.rg (.op .no q64 .loc (.op .no q1v .loc (.op .no q52 .loc (.op .no (.call (.lit (.clo 82 [])) [qi, qc]) .loc (.op .no q6e q2h (.op .no (.st 10 q2i qc) .non .fin))))))) (.seq (.seq (.rg (.op .no q6f .loc (.op .no q6a .loc (.op .no (.call (.lit (.clo 83 [])) [qt, qc, q6g]) .loc q6h)))) (.seq q6k (.cond q6l (.seq (.rg (.op .no q68 .loc (.op .no q5t .loc q69))) .ret) .skip))) (.seq (.rg (.op .no q6f .loc (.op .no (.fadr 3 q10) .loc (.op .no qm .loc (.op .no q6m .loc q6n))))) (.seq (.seq (.rg (.op .no q6f .loc (.op .no q6a .loc (.op .no q6o .loc (.op .no (.call (.lit (.clo 83 [])) [qi, qt, qc]) .loc q6p))))) (.seq (.rg (.op .no q6q .loc (.op .no q1f q6r .fin))) (.cond q6s (.seq (.rg (.op .no q68 .loc (.op .no q6q .loc q69))) .ret) .skip))) (.seq (.rg (.op .no q6f .loc (.op .no q6o .loc (.op .no (.call (.lit (.clo 85 [])) [qt, qc]) .loc (.op .no qu .loc (.op .no qw .loc (.op .no q11 .loc (.op .no q5c q31 (.op .no (.st 3 q32 qt) .non q44))))))))) (.seq (.seq (.rg (.op .no q6t .loc (.op .no q1r q6u .fin))) (.cond q6v (.seq (.rg (.op .no q68 .loc (.op .no q6w .non q6y))) .ret) .skip)) (.seq (.rg (.op .no q1v .loc (.op .no q52 .loc (.op .no q6z .loc (.op .no qu .loc (.op .no qw .loc (.op .no q11 .loc (.op .no q70 q3w (.op .no (.st 3 q3y qt) .non q71))))))))) (.seq (.rgd (.op .no (.soft q6f) .loc (.op .no (.soft (.fadr 5 q10)) .loc (.op .no q5s .loc (.op .no (.hard (.call (.lit (.clo 87 [])) [qi, qc])) .loc (.op .no (.softw q6f 1 (.load 165 (.tmp 8)) (rfR 10881522665550846638597651018252287 [77, 76, 75, 74] [8])) .loc (.op .no (.softw q6a 1 (.load 78 (.tmp 3)) (rfR 10881522665550846638597651018252287 [71, 77, 76, 75, 74] [3])) .loc (.op .no q72 .loc (.op .no (.softw q73 1 (.load 31 (.tmp 14)) (rfR 10881522665550846638597651018252287 [73, 72, 71, 77, 76, 75, 74] [14])) .loc (.op .no (.hard (.call (.lit (.clo 86 [])) [qf, qi, qt, q1p, qc])) .loc (.op .no qv .loc (.op .no qx .loc (.op .no q12 .loc (.op .no (.soft q74) q49 (.op .no qv q5l .fin)))))))))))))) 0) (.seq (.seq (.rg (.op .no q75 .loc (.op .no q1f q76 .fin))) (.cond q77 (.seq (.rg (.op .no q68 .loc (.op .no q75 .loc q69))) .ret) .skip)) (.seq (.rg (.op .no (.ld 3 true q32) .loc (.op .no q78 .loc (.op .no q2f .loc (.op .no q5p .loc (.op .no (.bld [(.mk 0 3 qf), (.mk 3 3 qt), (.mk 6 1 qc)] [(.int .i64 (.ofNat 0)), (.int .i64 (.ofNat 0)), (.con (.slice Option.none 0 0)), (.int .u8 (.ofNat 0)), (.int .i64 (.ofNat 0)), (.int .i64 (.ofNat 0)), (.con (.slice Option.none 0 0))]) .loc (.op .no q4r q7a (.op .no (.st 7 q7b qc) .non .fin)))))))) (.seq (.seq (.rg (.op .no q6o .loc (.op .no q7c .loc (.op .no qm q7d .fin)))) (.cond q7e (.seq (.rg (.op .no q78 .loc (.op .no q2f .loc (.op .no q73 .loc (.op .no q7f .loc (.op .no qu .loc (.op .no qw .loc (.op .no q11 .loc (.op .no (.fadr 3 q7b) .loc (.op .no (.st 3 qc qi) .non (.op .no q74 q5l .fin))))))))))) (.seq (.rg (.op .no q75 .loc (.op .no q1f q7g .fin))) (.cond q7h q7j .skip))) .skip)) (.seq (.seq (.rg (.op .no (.ld 7 true q7b) .loc (.op .no q3b .loc q7m))) (.seq (.rg (.op .no (.mv q7n) q7o .fin)) (.block 0 (.seq (.rg (.op .no (.bin .eql 41 q7p q15) .loc (.op .no qu q7q .fin))) (.cond q7r (.seq (.rg (.op .no (.ld 7 true q7b) .loc (.op .no q6o .loc (.op .no (.call (.lit (.clo 88 [])) [qt, qc]) .loc (.op .no q6w .non q63))))) .ret) (.seq (.rg (.op .no (.bin .eql 41 q7p q17) .loc q7t)) (.cond q7u q7j .skip))))))) (.seq (.rg (.op .no q68 .loc (.op .no q6w .non (.op .no (.mv q7v) q1b .fin)))) .ret)))))))))))))))))
theorem ck27 : compF Tryz.prog xi27 = some cf27 := by kernel_rfl
noncomputable def xi28 := xiM 28 f28 1
theorem xk28 : TOK xi28 := tabOK1 func28 (by kernel_rfl) (by kernel_rfl) rfl rfl
noncomputable def cf28 : FnC := (.mk 1 5 (.one (.cell 7 true qa)) (.seq (.rg (.op .no q4r q7w .fin)) (.seq (.rg (.op .no (.call (.lit (.clo 21 [])) [q8, q35]) .loc (.op .no (.bld [(.mk 0 1 qg), (.mk 1 1 q35)] [(.int .u8 (.ofNat 0)), (.int .i64 (.ofNat 0))]) .loc (.op .no (.bld [(.mk 0 2 qc), qh, (.mk 3 1 q1t)] [(.int .u8 (.ofNat 0)), (.int .i64 (.ofNat 0)), (.int .u8 (.ofNat 0)), (.bool false)]) .loc (.op .no (.call (.lit (.clo 33 [])) [qi, qc]) .loc (.op .no (.st 7 qa qc) .non .fin)))))) .ret)))
theorem ck28 : compF Tryz.prog xi28 = some cf28 := by kernel_rfl
noncomputable def xi29 := xiM 29 f29 4297195999
theorem xk29 : TOK xi29 := tabOK1 func29 (by kernel_rfl) (by kernel_rfl) rfl rfl
noncomputable def cf29 : FnC := (.mk 4297195999 33 q7x (.seq (.rg (.op .no q3g qz (.op .no q7y q13 q63))) (.seq (.rg (.op .no (.fadr 6 q10) .loc (.op .no qm .loc (.op .no q7z .loc (.op .no (.call (.lit (.clo 89 [])) [qt, qc]) .loc q37))))) (.seq (.seq (.rg (.op .no q34 .loc (.op .no q1x .loc (.op .no q80 .loc (.op .no q1x .loc (.op .no q81 q2h .fin)))))) (.cond q2i q82 .skip)) (.seq (.seq q26 (.block 0 (.loop (.seq (.seq (.rg (.op .no q28 .loc (.op .no q34 .loc (.op .no q1x .loc (.op .no q83 qp .fin))))) q84) (.seq (.block 1 (.seq (.rgd (.op .no q85 .loc (.op .no q86 .loc (.op .no q88 .loc (.op .no q5s .loc (.op .no q89 .loc (.op .no q86 .loc (.op .no q88 .loc (.op .no q5s .loc (.op .no (.soft (.bin .neq 3 q1p qc)) q1y .fin))))))))) 0) (.cond q1z q82 .skip))) q3a))))) (.seq (.rg q8a) .ret))))))
theorem ck29 : compF Tryz.prog xi29 = some cf29 := by kernel_rfl
noncomputable def xi30 := xiM 30 f30 4079
theorem xk30 : TOK xi30 := tabOK1 func30 (by kernel_rfl) (by kernel_rfl) rfl rfl
noncomputable def cf30 : FnC := (.mk 4079 104 (.one (.tmp qa)) (.seq (.rg (.op .no q3 q7w .fin)) (.seq (.rg (.op .no q7 .loc (.op .no q8b q4 (.op .no (.st 2 q0 qc) .non .fin)))) (.seq (.rgd (.op .no qs .loc (.op .no (.softw q8c 1 (.load 65 (.tmp 1)) (rfR 4079 [14] [1])) .loc (.op .no (.bsl 3 1 1 [q9] 0) .loc (.op .no q8d .loc (.op .no q8e .loc (.op .no qv .loc (.op .no qx .loc (.op .no q8f qj (.op .no (.hard (.st 7 qk qc)) .non (.op .no q12 .loc q8g)))))))))) 4) (.seq (.rgd (.op .no qs .loc (.op .no (.softw q8c 1 (.load 65 (.tmp 1)) (rfR 4079 [22] [1])) .loc (.op .no (.bsl 3 1 1 [q8] 0) .loc (.op .no q8d .loc (.op .no q8e .loc (.op .no qv .loc (.op .no qx .loc (.op .no q8f .loc (.op .no (.hard (.st 7 qc qt)) .non (.op .no q8h .loc q14)))))))))) 4) (.seq (.rgd (.op .no qs .loc (.op .no (.softw q8c 1 (.load 65 (.tmp 1)) (rfR 4079 [30] [1])) .loc (.op .no (.bsl 3 2 1 [q8, q9] 0) .loc (.op .no (.soft (.bld [(.mk 0 2 qt), qh, q57, (.mk 4 1 qn), (.mk 5 1 qr)] [(.int .u8 (.ofNat 0)), (.int .i64 (.ofNat 0)), (.int .u8 (.ofNat 0)), (.con (.slice Option.none 0 0)), (.int .u8 (.ofNat 0)), (.int .i64 (.ofNat 0))])) .loc (.op .no q8e .loc (.op .no qv .loc (.op .no qx .loc (.op .no q8f q1b (.op .no (.hard (.st 7 q1l qc)) .non (.op .no q12 .loc q8i)))))))))) 4) (.seq (.rgd (.op .no qs .loc (.op .no (.softw q8c 1 (.load 65 (.tmp 1)) (rfR 4079 [38] [1])) .loc (.op .no (.hard (.call (.lit (.clo 31 [])) [qt, qc, qg, q9])) .loc (.op .no qv .loc (.op .no qx .loc (.op .no q12 .loc (.op .no (.soft q74) q24 q8j))))))) 0) (.seq (.rg (.op .no q1j .loc (.op .no (.bld [qh] [(.int .i64 (.ofNat 0)), (.int .i64 (.ofNat 0)), (.int .u8 (.ofNat 0))]) .loc (.op .no q8k qp (.op .no q8k q1y (.op .no (.st 3 qq qt) .non q5r)))))) (.seq (.rg (.op .no q8l .loc (.op .no q3c .loc (.op .no qu .loc (.op q2k q1e .loc (.op q2m (.bin .eql 41 qc q7v) .loc (.op .no q8m .loc (.op .no qu .loc (.op q2k q34 .loc (.op q2m q3c .loc (.op .no q8m .loc (.op .no qu .loc (.op q2k q8n .loc (.op q2m q3c .loc (.op .no q8m .loc (.op .no qu .loc (.op q2k q64 .loc (.op q2m q8o .loc (.op q2n (.bsl 3 3 1 [q15, qr, q16]) .loc (.op q2o q1o .loc (.op q8p q8q .loc (.op .no q8r .loc (.op .no qu .loc (.op q2k q64 .loc (.op q2m q8s .loc (.op q2n (.bsl 3 3 1 [q35, q6x, q9]) .loc (.op q2o q1o .loc (.op q8p q8q .loc (.op .no q8r .loc (.op .no qu .loc (.op q2k (.ld 7 true q1l) .loc (.op q2m q8o .loc (.op q2n q18 .loc (.op q2o q1o .loc (.op q8p q8q .loc (.op .no q8r .loc (.op .no qu .loc (.op q2k (.ld 7 true q1l) .loc (.op q2m q8s .loc (.op q2n (.bsl 3 4 1 [q35, q8, q9, q6x]) .loc (.op q2o q1o .loc (.op q8p q8q .loc (.op .no q8r .loc (.op .no qu .loc (.op q2k q28 .loc (.op q2m q1x .loc (.op q2n (.bin .eql 3 qc q8) .loc (.op .no q2s .loc (.op .no qu .loc (.op q2k q28 .loc (.op q2m q7c .loc (.op q2n qm .loc (.op q2o (.bin .eql 3 qc q16) .loc (.op .no q8t .loc (.op .no qu .loc (.op q2k q28 .loc (.op q2m (.ias 1 qc q35) .loc (.op q2n qm .loc (.op q2o (.bin .eql 3 qc q9) .loc (.op .no q8t .loc q8u)))))))))))))))))))))))))))))))))))))))))))))))))))))))))))) .ret)))))))))
theorem ck30 : compF Tryz.prog xi30 = some cf30 := by kernel_rfl
noncomputable def xi31 := xiM 31 f31 644015847366754111
theorem xk31 : TOK xi31 := tabOK1 func31 (by kernel_rfl) (by kernel_rfl) rfl rfl
noncomputable def cf31 : FnC := (.mk 644015847366754111 67 (.many [q8v, (.tmp q27)]) (.seq (.rg (.op .no q3g q13 (.op .no q8w q1b (.op .no q8x q22 q25)))) (.seq (.seq (.rg (.op .no (.ld 7 true q1d) .loc (.op .no q3b .loc q8y))) (.seq q90 (.cond q3v (.seq (.rg (.op .no q8n .loc (.op .no q8x q22 q39))) .ret) .skip))) (.seq (.seq (.rg (.op .no q91 .loc (.op .no q92 .loc (.op .no q1f .loc (.op .no qu .loc (.op q1g q80 .loc (.op q1i q93 .loc (.op .no q94 q3w .fin)))))))) (.cond q3y (.seq (.rg (.op .no q8x q22 (.op .no q4n q24 .fin))) .ret) .skip)) (.seq (.rg (.op .no (.ld 7 true q1d) .loc (.op .no q91 .loc (.op .no (.call (.lit (.clo 82 [])) [qt, qc]) .loc (.op .no q6e qp (.op .no (.st 10 qq qc) .non .fin)))))) (.seq (.block 0 (.seq (.rg (.op .no q8l .loc (.op .no q95 .loc (.op .no qu .loc (.op q1g q8l .loc (.op q1i (.fadr 7 qq) .loc (.op q1k qm .loc (.op q1n q1x .loc (.op q1q (.bin .geq 3 qf qc) .loc (.op .no q1u .loc q5y)))))))))) (.cond q4a (.seq (.rg (.op .no q8x q22 (.op .no (.mv q6x) q24 .fin))) .ret) (.seq (.rg (.op .no (.fadr 9 qq) .loc (.op .no qm .loc (.op .no q8l .loc (.op .no q87 .loc (.op .no qm .loc (.op .no q80 .loc (.op .no (.gen (.convert 5 3 (.tmp 46)) (rfC 644015847366754111 [46, 45, 44, 43, 42, 41])) .loc (.op .no q81 .loc q96))))))))) (.cond q5n (.seq (.rg (.op .no q8x q22 (.op .no (.mv q9) q24 .fin))) .ret) .skip))))) (.seq (.rg (.op .no q8x q1y .fin)) (.seq (.seq (.rg (.op .no (.ld 10 true qq) .loc (.op .no q8l .loc (.op .no q97 .loc (.op .no q6m q7a q98))))) (.block 1 (.loop (.seq q99 (.seq (.cond q6d .skip q9a) (.seq (.block 2 (.seq (.rg (.op .no (.mv q67) .loc (.op .no (.ias 1 q7b q67) .loc (.op .no qm .loc (.op .no q5q q2a q9b))))) (.seq (.rg (.op .no q9c q6j .fin)) (.cond q6l (.rg (.op .no q6o .loc (.op .no q6q .loc (.op .no q97 .loc (.op .no q9d .loc q6n))))) .skip)))) q9e)))))) (.seq (.rg (.op .no q6o .loc (.op .no q9f .loc (.op .no qu q22 q25)))) .ret)))))))))
theorem ck31 : compF Tryz.prog xi31 = some cf31 := by kernel_rfl
noncomputable def xi33 := xiM 33 f33 3291411241472358677572570591274730054587124856313208088523833343
theorem xk33 : TOK xi33 := tabOK1 func33 (by kernel_rfl) (by kernel_rfl) rfl rfl
noncomputable def cf33 : FnC := (.mk 3291411241472358677572570591274730054587124856313208088523833343 247 (.one (.cell 7 true q1d)) (.seq (.rg (.op .no q3g qj (.op .no (.box 67 q0) qz (.op .no q4r q13 .fin)))) (.seq (.rg (.op .no q1v .loc (.op .no q52 .loc (.op .no (.call (.lit (.clo 80 [])) [qc]) .loc (.op .no q70 q1b q9g))))) (.seq (.rgd (.op .no (.bsl 84 0 3 [] 0) .loc (.op .no q9i .loc (.op .no q5w .loc (.op .no q5s .loc (.op .no (.hard (.app 27 84 3 16 qf qc)) .loc (.op .no q9i .loc (.op .no q51 .loc (.op .no (.softw q52 1 (.load 26 (.tmp 25)) (rfR 3291411241472358677572570591274730054587124856313208088523833343 [25, 24, 31, 30, 29, 28, 27] [25])) .loc (.op .no (.soft (.bld [(.mk 0 2 qc), (.mk 2 1 qf)] [(.int .i64 (.ofNat 0)), (.int .i64 (.ofNat 0)), (.con (.slice Option.none 0 0))])) .loc (.op .no (.soft q78) .loc (.op .no (.softw q2f 1 (.load 31 (.tmp 33)) (rfR 3291411241472358677572570591274730054587124856313208088523833343 [33, 32, 26, 25, 24, 31, 30, 29, 28, 27] [33])) .loc (.op .no (.soft (.bld [(.mk 0 3 qi), (.mk 3 3 qc)] [(.int .i64 (.ofNat 0)), (.int .i64 (.ofNat 0)), (.con (.slice Option.none 0 0)), (.int .u8 (.ofNat 0)), (.int .i64 (.ofNat 0)), (.int .i64 (.ofNat 0)), (.con (.slice Option.none 0 0))])) .loc (.op .no q8f q22 (.op .no (.hard (.st 7 q33 qc)) .non .fin)))))))))))))) 4) (.seq (.rg (.op .no q8x q24 (.op .no q8x q2h .fin))) (.seq (.seq (.rg q9j) (.block 0 (.loop (.seq (.seq (.rg (.op .no q5t .loc (.op .no (.fadr 6 qk) .loc (.op .no qm .loc (.op .no q1x .loc (.op .no q9k q6c .fin)))))) (.cond q6d .skip q2c)) (.seq (.block 1 (.seq (.rg (.op .no (.fadr 6 qk) .loc (.op .no qm .loc (.op .no q5t .loc (.op .no q9l .loc q9o))))) (.seq (.seq (.rgd (.op .no q4z .loc (.op .no q53 .loc (.op .no (.soft q5v) .loc (.op .no q9p .loc (.op .no (.hard (.call (.lit (.clo 92 [])) [qi, qc])) .loc (.op .no (.soft q9q) .loc (.op .no (.softw qm 1 (.load 5 (.tmp 53)) (rfR 3291411241472358677572570591274730054587124856313208088523833343 [53, 52, 51, 50, 49, 48] [53])) .loc (.op .no (.soft (.bin .neq 5 qi qc)) q6j .fin)))))))) 0) (.cond q6l (.seq (.rgd (.op .no (.bsl 3 0 1 [] 0) .loc (.op .no (.soft q9r) .loc (.op .no q5s .loc (.op .no (.hard q9d) .loc (.op .no q9s .loc (.op .no (.soft q5v) .loc (.op .no (.softw q2f 1 (.load 37 (.tmp 57)) (rfR 3291411241472358677572570591274730054587124856313208088523833343 [57, 56, 62, 61, 60, 59] [57])) .loc (.op .no (.soft (.bld [(.mk 0 3 qc), (.mk 3 1 qf)] [(.int .i64 (.ofNat 0)), (.int .i64 (.ofNat 0)), (.int .u8 (.ofNat 0)), (.con (.slice Option.none 0 0))])) .loc (.op .no (.bsl 40 1 4 [qc] 2) .loc (.op .no (.hard q58) .loc q8j)))))))))) 4) q9a) .skip)) (.seq (.rg (.op .no q8x q2a .fin)) (.seq (.seq (.rg (.op .no q9r .loc (.op .no qm .loc (.op .no q1x .loc (.op .no q9t .loc q9b))))) (.block 2 (.loop (.seq (.seq (.rg (.op .no q9c .loc (.op .no q9u q6r .fin))) (.cond q6s .skip q9v)) (.seq (.block 3 (.seq (.rg (.op .no q6q .loc (.op .no q9r .loc (.op .no qm .loc (.op .no q9c .loc (.op .no q87 .loc (.op .no qm .loc (.op .no q97 .loc (.op .no (.app 38 3 1 8 q4l qc) .loc q6p))))))))) (.seq (.rg (.op .no q9r .loc (.op .no qm .loc (.op .no q9c .loc (.op .no q87 .loc (.op .no qm .loc (.op .no q1r q6u .fin))))))) (.cond q6v (.rg (.op .no q78 .loc (.op .no q2f .loc (.op .no q9w .loc (.op .no (.call (.lit (.clo 93 [])) [qt, qc]) .loc (.op .no (.fadr 3 q33) .loc (.op .no q9x .non .fin))))))) .skip)))) (.rg (.op .no q9c .loc (.op .no q9t .loc q9b)))))))) (.rg (.op .no q28 .loc (.op .no q9w .loc (.op .no q5v .loc (.op .no q2f .loc (.op .no (.call (.lit (.clo 94 [])) [qi, qc]) .loc (.op .no q6q .loc (.op .no q9y .loc (.op .no q9z .loc (.op .no (.app 32 40 4 48 q2q qc) .loc q39))))))))))))))) (.rg (.op .no q5t .loc (.op .no q36 .loc q6h)))))))) (.seq (.seq (.rg (.op .no q20 q3t .fin)) (.block 4 (.loop (.seq (.seq (.rg (.op .no q6t .loc (.op .no q28 .loc (.op .no q1x .loc (.op .no q83 q76 .fin))))) (.cond q77 .skip qa0)) (.seq (.block 5 (.seq (.rg (.op .no q3 q3w .fin)) (.seq (.seq (.rg (.op .no q20 q49 .fin)) (.block 6 (.loop (.seq (.seq (.rg (.op .no q5p .loc (.op .no q8n .loc (.op .no q1x .loc (.op .no q83 .loc (.op .no qu .loc (.op q2k qa1 .loc (.op q2m qa2 .loc (.op .no q8m q7d .fin))))))))) (.cond q7e .skip (.exit 6))) (.seq (.block 7 (.seq (.seq (.rgd (.op .no q9s .loc (.op .no qa3 .loc (.op .no qa4 .loc (.op .no q51 .loc (.op .no q9p .loc (.op .no q86 .loc (.op .no qa5 .loc (.op .no qa4 .loc (.op .no q51 .loc (.op .no q9p .loc (.op .no (.soft (.bin .neq 37 q1s qc)) q7g .fin))))))))))) 0) (.cond q7h (.exit 7) .skip)) (.seq (.rg (.op .no qa6 q3w .fin)) (.seq (.rg (.op .no (.fadr 3 q10) .loc (.op .no qm q7o .fin))) (.cond q7p (.rgd (.op .no q9s .loc (.op .no qa3 .loc (.op .no qa4 .loc (.op .no qa7 .loc (.op .no q5s .loc (.op .no q86 .loc (.op .no qa5 .loc (.op .no qa4 .loc (.op .no qa7 .loc (.op .no q5s .loc qab)))))))))) 0) (.rgd (.op .no (.bsl 3 0 1 [] 0) .loc (.op .no q86 .loc (.op .no qa5 .loc (.op .no qa4 .loc (.op .no qa7 .loc (.op .no q5s .loc (.op .no qa8 .loc (.op .no q9s .loc (.op .no qa3 .loc (.op .no (.softw q9l 1 (.indexAddr 32 (.tmp 155) (.tmp 156)) (rfR 3291411241472358677572570591274730054587124856313208088523833343 [156, 155, 154, 153, 152, 151, 150, 149, 148] [155, 156])) .loc (.op .no qa7 .loc (.op .no (.softw qm 1 (.load 38 (.tmp 158)) (rfR 3291411241472358677572570591274730054587124856313208088523833343 [158, 157, 156, 155, 154, 153, 152, 151, 150, 149, 148] [158])) .loc qab)))))))))))) 2)))))) (.rg (.op .no q5p .loc (.op .no q36 .loc q5y)))))))) (.seq (.rg (.op .no qa1 .loc (.op .no qa2 q7q .fin))) (.cond q7r (.rg (.op .no q8n .loc (.op .no q28 .loc (.op .no q6t .loc (.op .no q9l .loc (.op .no q9m .loc (.op .no q9z .loc (.op .no qac .loc q8y)))))))) .skip))))) (.rg (.op .no q6t .loc (.op .no q36 .loc q44)))))))) (.seq (.rg (.op .no q8n .loc (.op .no (.call (.lit (.clo 95 [])) [qc]) .loc (.op .no (.fadr 6 q33) .loc qad)))) (.seq (.rg (.op .no q9h .loc (.op .no q2f .loc (.op .no q78 .loc (.op .no q2f .loc (.op .no qae .loc (.op .no qu .loc (.op .no qw .loc (.op .no q11 .loc (.op .no q74 q5l q71)))))))))) (.seq (.rg (.op .no q64 .loc (.op .no (.call (.lit (.clo 91 [])) [qc]) .loc qaf))) (.seq (.seq (.rg (.op .no q20 q7l .fin)) (.block 8 (.loop (.seq (.seq (.rg (.op .no (.mv q7n) .loc (.op .no (.mv q7b) .loc (.op .no q1x .loc (.op .no q83 q7s .fin))))) (.cond q7u .skip (.exit 8))) (.seq (.block 9 (.seq (.seq (.rgd (.op .no qag .loc (.op .no qah .loc (.op .no qa4 .loc (.op .no q5w .loc (.op .no q53 .loc (.op .no q4z .loc (.op .no q53 .loc (.op .no (.soft (.bin .neq 65 qi qc)) qai .fin)))))))) 0) (.cond qaj (.exit 9) .skip)) (.seq (.rg (.op .no (.mv qn) q66 .fin)) (.seq (.seq (.rgd (.op .no (.soft q75) .loc (.op .no qag .loc (.op .no qah .loc (.op .no qa4 .loc (.op .no q51 .loc (.op .no q5s .loc (.op .no (.soft (.ias 3 q1s qc)) .loc (.op .no q51 .loc (.op .no q5s .loc (.op .no (.soft (.bin .lss 5 qc q6)) .loc (.op .no (.soft (.fadr 3 q10)) .loc (.op .no q5s .loc (.op .no (.soft (.bin .neq 4 qi qc)) qak .fin))))))))))))) 0) (.cond qal (.rg (.op .no (.mv qg) q66 .fin)) .skip)) (.rgd (.op .no q9i .loc (.op .no q51 .loc (.op .no q53 .loc (.op .no qag .loc (.op .no qah .loc (.op .no qa4 .loc (.op .no q51 .loc (.op .no q5s .loc (.op .no qag .loc (.op .no qah .loc (.op .no qa4 .loc (.op .no (.soft qam) .loc (.op .no q5s .loc (.op .no (.hard (.call (.lit (.clo 97 [])) [qan, q1s, qc])) .loc (.op .no (.soft qao) .loc (.op .no q5w .loc (.op .no (.softw qm 1 (.load 27 (.tmp 213)) (rfR 3291411241472358677572570591274730054587124856313208088523833343 [213, 212, 233, 232, 231, 230, 229, 228, 227, 226, 225, 224, 223, 222, 221, 220] [213])) .loc (.op .no qag .loc (.op .no qah .loc (.op .no (.softw q9l 1 (.indexAddr 176 (.tmp 215) (.tmp 216)) (rfR 3291411241472358677572570591274730054587124856313208088523833343 [216, 215, 214, 213, 212, 233, 232, 231, 230, 229, 228, 227, 226, 225, 224, 223, 222, 221, 220] [215, 216])) .loc (.op .no q51 .loc (.op .no (.softw qm 1 (.load 3 (.tmp 218)) (rfR 3291411241472358677572570591274730054587124856313208088523833343 [218, 217, 216, 215, 214, 213, 212, 233, 232, 231, 230, 229, 228, 227, 226, 225, 224, 223, 222, 221, 220] [218])) .loc (.op .no (.soft (.mv q67)) .loc (.op .no (.soft (.bld [(.mk 0 1 qt), (.mk 1 1 qap), qaq] [(.int .i64 (.ofNat 0)), (.int .u8 (.ofNat 0)), (.int .u8 (.ofNat 0))])) .loc (.op .no (.bsl 84 1 3 [qc] 0) .loc (.op .no (.hard (.app 27 84 3 16 q2u qc)) .loc (.op .no (.soft qao) .loc q5x))))))))))))))))))))))))))) 2))))) (.rg (.op .no (.mv q7n) .loc (.op .no q36 .loc q7m)))))))) (.seq (.rg (.op .no qao .loc (.op .no q1w .loc (.op .no qm .loc (.op .no (.call (.lit (.clo 98 [])) [qc]) .loc (.op .no qao .loc (.op .no q1w .loc qar))))))) (.seq (.rg (.op .no (.ld 7 true q33) .loc (.op .no q6w .non .fin))) .ret)))))))))))))
theorem ck33 : compF Tryz.prog xi33 = some cf33 := by kernel_rfl
noncomputable def xi34 := xiM 34 f34 262271
theorem xk34 : TOK xi34 := tabOK1 func34 (by kernel_rfl) (by kernel_rfl) rfl rfl
noncomputable def cf34 : FnC := (.mk 262271 34 (.many [(.cell 9 true qk), q5a]) (.seq (.rg (.op .no q3g q4 (.op .no q3k qj q5d))) (.seq (.rg (.op .no q3s .loc (.op .no q2f .loc (.op .no qas .loc (.op .no q2f .loc (.op .no (.fadr 6 q0) .loc (.op .no qm .loc (.op .no (.call (.lit (.clo 99 [])) [q1p, qi, qc]) .loc (.op .no qu .loc qat))))))))) (.seq (.seq (.rg (.op .no q1m .loc (.op .no q1f q24 .fin))) (.cond q27 (.seq (.rg (.op .no (.bld [] [(.int .i64 (.ofNat 0)), (.int .i64 (.ofNat 0)), (.con (.slice Option.none 0 0)), (.int .u8 (.ofNat 0)), (.int .i64 (.ofNat 0)), (.int .i64 (.ofNat 0)), (.con (.slice Option.none 0 0)), (.con (.slice Option.none 0 0)), (.con (.slice Option.none 0 0))]) .loc qau)) .ret) .skip)) (.seq (.rg (.op .no q3s .loc (.op .no q2f .loc (.op .no qas .loc (.op .no q2f .loc (.op .no (.call (.lit (.clo 63 [])) [qi, qc]) .loc (.op .no qu .loc (.op .no qw .loc (.op .no q11 .loc (.op .no q74 q22 q1c)))))))))) (.seq (.rg (.op .no q3i .loc (.op .no q34 .loc (.op .no q1e .loc (.op .no (.bld [(.mk 0 7 qi), (.mk 7 1 qt), (.mk 8 1 qc)] [(.int .i64 (.ofNat 0)), (.int .i64 (.ofNat 0)), (.con (.slice Option.none 0 0)), (.int .u8 (.ofNat 0)), (.int .i64 (.ofNat 0)), (.int .i64 (.ofNat 0)), (.con (.slice Option.none 0 0)), (.con (.slice Option.none 0 0)), (.con (.slice Option.none 0 0))]) .loc qau))))) .ret))))))
theorem ck34 : compF Tryz.prog xi34 = some cf34 := by kernel_rfl
noncomputable def xi35 := xiM 35 f35 132055
theorem xk35 : TOK xi35 := tabOK1 func35 (by kernel_rfl) (by kernel_rfl) rfl rfl
noncomputable def cf35 : FnC := (.mk 132055 19 q3f (.seq (.rg (.op .no (.box 94 qa) q4 q3h)) (.seq (.seq (.rg (.op .no (.fadr 8 q0) .loc (.op .no qm q13 qav))) (.block 0 (.loop (.seq qaw (.seq qax (.seq (.block 1 (.seq (.rg (.op .no (.ias 9 q1d q33) .loc qaz)) (.seq (.rg (.op .no q3o .loc (.op .no q3s .loc (.op .no qb0 .loc (.op .no qm .loc (.op .no (.call (.lit (.clo 100 [])) [qf, qc]) .loc qb1)))))) (.cond q2i (.seq (.rg (.op .no (.mv q7v) qj .fin)) .ret) .skip)))) qb2)))))) q4c)))
theorem ck35 : compF Tryz.prog xi35 = some cf35 := by kernel_rfl
noncomputable def xi36 := xiM 36 f36 990887
theorem xk36 : TOK xi36 := tabOK1 func36 (by kernel_rfl) (by kernel_rfl) rfl rfl
noncomputable def cf36 : FnC := (.mk 990887 35 qb3 (.seq (.rg (.op .no (.box 94 qa) qj .fin)) (.seq (.rg (.op .no (.fadr 8 qk) .loc (.op .no qm q1b qb4))) (.block 0 (.loop (.seq qb5 (.seq qb6 (.seq (.block 1 (.seq (.rg (.op .no (.ias 9 q1l q27) .loc qaz)) (.seq (.rg (.op .no qb7 .loc (.op .no qm qp qb9))) (.block 2 (.loop (.seq qba (.seq (.cond q32 .skip q9v) (.seq (.block 3 (.seq (.rg (.op .no (.ias 3 qq q2b) .loc (.op .no q2f .loc (.op .no qbb q13 qbd)))) (.rgd (.op .no q9i .loc (.op .no q51 .loc (.op .no q51 .loc (.op .no q53 .loc (.op .no qbe .loc (.op .no (.hard (.call (.lit (.clo 101 [])) [qt, qc])) .loc (.op .no (.softw (.ld 9 true qk) 1 (.load 94 (.tmp 2)) (rfR 990887 [28, 27, 26, 25, 24, 23] [2])) .loc (.op .no (.softw q7z 1 (.load 195 (.tmp 7)) (rfR 990887 [29, 28, 27, 26, 25, 24, 23] [7])) .loc (.op .no (.hard (.call (.lit (.clo 102 [])) [qt, qc])) .loc (.op .no qbf .loc (.op .no (.hard (.call qc [q1p, qt])) .loc .fin))))))))))) 0))) qbg)))))))) qbh))))))))
theorem ck36 : compF Tryz.prog xi36 = some cf36 := by kernel_rfl
noncomputable def xi37 := xiM 37 f37 31
theorem xk37 : TOK xi37 := tabOK1 func37 (by kernel_rfl) (by kernel_rfl) rfl rfl
noncomputable def cf37 : FnC := (.mk 31 20 qb3 (.seq (.rg (.op .no (.box 100 qa) q13 .fin)) (.rg (.op .no qbi .loc (.op .no qu .loc (.op q1g qbj .loc (.op q1i (.ld 2 true q1d) .loc (.op q1k (.gen (.lookup 98 (.tmp 8) (.tmp 9) false) (rfC 31 [9, 8, 7, 6])) .loc (.op q1n (.bin .neq 82 qc qbk) .loc (.op q1q qu .loc (.op q2k qbj .loc (.op q2m (.ld 2 true q1d) .loc (.op q2n (.gen (.lookup 98 (.tmp 13) (.tmp 14) false) (rfC 31 [14, 13, 12, 11, 10, 9, 8, 7, 6])) .loc (.op q2o q4s .loc (.op q8p (.bin .neq 82 qt qc) .loc (.op (.yes qan false) q8r .loc (.op .no (.pick qbl q1t qc) .loc qbm)))))))))))))))))
theorem ck37 : compF Tryz.prog xi37 = some cf37 := by kernel_rfl
noncomputable def xi42 := xiM 42 f42 5
theorem xk42 : TOK xi42 := tabOK1 func42 (by kernel_rfl) (by kernel_rfl) rfl rfl
noncomputable def cf42 : FnC := (.mk 5 9 q1 (.seq qbn (.seq (.rg (.op .no qb .loc (.op .no qb .loc (.op .no q1x .loc (.op .no qb .loc (.op .no q1x .loc (.op .no (.gen (.slice 38 (.tmp 3) Option.none (Option.some (.tmp 5)) (Option.some (.tmp 7))) (rfC 5 [7, 6, 5, 4, 3])) .loc q3e))))))) .ret)))
theorem ck42 : compF Tryz.prog xi42 = some cf42 := by kernel_rfl
noncomputable def xi47 := xiM 47 f47 447
theorem xk47 : TOK xi47 := tabOK1 func47 (by kernel_rfl) (by kernel_rfl) rfl rfl
noncomputable def cf47 : FnC := (.mk 447 18 qbp (.seq qbs (.seq (.rg (.op .no qbt .loc (.op .no qbu .loc (.op .no qbv .loc (.op .no qu .loc (.op .no qw .loc (.op .no q11 .loc (.op .no qbw .loc (.op .no q5q .loc (.op .no q5q q22 (.op .no q74 q24 .fin))))))))))) qbx)))
theorem ck47 : compF Tryz.prog xi47 = some cf47 := by kernel_rfl
noncomputable def xi49 := xiM 49 f49 8070450540872404851
theorem xk49 : TOK xi49 := tabOK1 func49 (by kernel_rfl) (by kernel_rfl) rfl rfl
noncomputable def cf49 : FnC := (.mk 8070450540872404851 76 q3f (.seq (.rg qby) (.seq (.rg (.op .no (.gen (.makeMap 205 Option.none) (rfC 8070450540872404851 [])) .loc q5g)) (.seq qbz (.seq (.seq (.rg (.op .no qb .loc (.op .no q4s .loc (.op .no (.bsl 32 2 1 [qt, qc]) .loc (.op .no (.call (.lit (.clo 111 [])) [qc]) qp qb9))))) (.block 0 (.loop (.seq qba (.seq qc0 (.seq (.block 1 (.seq (.rg (.op .no (.ias 4 qq q2b) .loc (.op .no q9m .loc (.op .no q9n q1b (.op .no (.st 4 q1l qc) .non .fin))))) (.seq (.seq (.rg (.op .no (.fadr 3 q1l) .loc (.op .no qm .loc (.op .no q1x .loc (.op .no q1r q3t .fin))))) (.cond q3v q9a .skip)) (.seq (.seq (.rg (.op .no q8l .loc (.op .no qc1 .loc (.op .no q2f .loc (.op .no (.gen (.lookup 205 (.tmp 27) (.tmp 29) true) (rfC 8070450540872404851 [29, 28, 27])) .loc qc2))))) (.seq (.rg (.op .no q28 q3w .fin)) (.cond q3y (.seq (.rgd (.op .no q54 .loc (.op .no q85 .loc (.op .no qa4 .loc (.op .no qa7 .loc (.op .no q5s .loc (.op .no (.soft (.fadr 3 q1l)) .loc (.op .no q5s .loc (.op .no (.hard q9d) .loc (.op .no q54 .loc (.op .no q85 .loc qaa)))))))))) 0) q9a) .skip))) (.seq (.rg (.op .no q8l .loc (.op .no qc1 .loc (.op .no q2f .loc (.op .no q1e .loc (.op .no q1x .loc (.op .no (.gen (.mapUpdate 205 (.tmp 46) (.tmp 48) (.tmp 50)) (rfC 8070450540872404851 [50, 49, 48, 47, 46])) .non .fin))))))) (.rg (.op .no q1e .loc (.op .no (.ld 4 true q1l) .loc (.op .no qc3 .loc (.op .no q9z .loc (.op .no (.app 32 40 4 48 qf qc) .loc q3l))))))))))) qbg)))))) (.seq (.rg (.op .no q1e .loc (.op .no (.call (.lit (.clo 113 [])) [qc, (.lit (.clo 114 []))]) .loc .fin))) (.seq (.seq (.rg (.op .no q1e .loc (.op .no q1x q49 (.op .no q20 q5l .fin)))) (.block 2 (.loop (.seq qc4 (.seq (.cond q7b .skip q9v) (.seq (.block 3 (.seq (.rg (.op .no q75 .loc q8y)) (.rg (.op .no q1e .loc (.op .no q8n .loc (.op .no q1e .loc (.op .no q8n .loc (.op .no q9l .loc (.op .no q9m .loc qc5))))))))) qc6)))))) (.seq (.rg (.op .no q1e .loc (.op .no (.call (.lit (.clo 116 [])) [qc]) .loc (.op .no (.call (.lit (.clo 115 [])) [qc]) .loc q3n)))) .ret))))))))
theorem ck49 : compF Tryz.prog xi49 = some cf49 := by kernel_rfl
noncomputable def xi53 := xiM 53 f53 23
theorem xk53 : TOK xi53 := tabOK1 func53 (by kernel_rfl) (by kernel_rfl) rfl rfl
noncomputable def cf53 : FnC := (.mk 23 19 qc7 (.seq (.rg (.op .no q4d qj (.op .no q8k qz .fin))) (.seq (.rgd (.op .no qbf .loc (.op .no qc8 .loc (.op .no q9i .loc (.op .no q5s .loc (.op .no (.soft (.bin .rem 3 qi qc)) .loc (.op .no qbf .loc (.op .no qc8 .loc (.op .no q9i .loc (.op .no q5s .loc (.op .no (.soft (.bin .quo 3 qi qc)) .loc (.op .no qbf .loc (.op .no (.soft qc9) .loc (.op .no (.soft (.gen (.convert 3 5 (.tmp 16)) (rfR 23 [16, 15, 14, 13, 12, 11, 10, 9, 8, 7, 6, 5] [16]))) .loc (.op .no (.soft (.bld [(.mk 0 1 q2u), (.mk 1 1 qf), qaq] [(.int .i64 (.ofNat 0)), (.int .i64 (.ofNat 0)), (.int .u8 (.ofNat 0))])) .loc qcb)))))))))))))) 0) .ret)))
theorem ck53 : compF Tryz.prog xi53 = some cf53 := by kernel_rfl
noncomputable def xi54 := xiM 54 f54 15
theorem xk54 : TOK xi54 := tabOK1 func54 (by kernel_rfl) (by kernel_rfl) rfl rfl
noncomputable def cf54 : FnC := (.mk 15 8 qb3 (.seq (.rg (.op .no (.box 100 qa) qz .fin)) (.rg (.op .no qbi .loc (.op .no qcc .loc (.op .no q4s .loc (.op .no (.gen (.mapUpdate 98 (.tmp 5) (.tmp 6) (.tmp 7)) (rfC 15 [7, 6, 5])) .non .fin)))))))
theorem ck54 : compF Tryz.prog xi54 = some cf54 := by kernel_rfl
noncomputable def xi55 := xiM 55 f55 7
theorem xk55 : TOK xi55 := tabOK1 func55 (by kernel_rfl) (by kernel_rfl) rfl rfl
noncomputable def cf55 : FnC := (.mk 7 9 qcd (.seq (.rg (.op .no qbq q4 (.op .no q5c qj .fin))) (.seq (.rg (.op .no qce .loc (.op .no qm .loc (.op .no qcf .loc (.op .no qcg .loc (.op .no qce .loc qad)))))) (.seq (.rg (.op .no qch .loc qci)) .ret))))
theorem ck55 : compF Tryz.prog xi55 = some cf55 := by kernel_rfl
noncomputable def xi58 := xiM 58 f58 4261455
theorem xk58 : TOK xi58 := tabOK1 func58 (by kernel_rfl) (by kernel_rfl) rfl rfl
noncomputable def cf58 : FnC := (.mk 4261455 35 q5b (.seq (.rg (.op .no qcj q4 (.op .no q70 qj q5d))) (.seq (.seq (.rg (.op .no q8c .loc (.op .no q92 .loc (.op .no q1f q13 .fin)))) (.cond q1d (.seq (.rg (.op .no qck .loc (.op .no (.st 3 qk qc) .non (.op .no q4n qz .fin)))) .ret) .skip)) (.seq (.seq (.rg (.op .no q3s .loc qcl)) (.block 0 (.seq (.rg (.op .no (.bin .eql 63 q1l qg) .loc q37)) (.cond q33 (.seq (.rg (.op .no q4g .loc (.op .no qm .loc (.op .no qcm .loc (.op .no (.bld [(.mk 0 1 q6), q42, (.mk 2 1 q15)] [(.int .u8 (.ofNat 0)), (.int .i64 (.ofNat 0)), (.int .i64 (.ofNat 0))]) .loc q61))))) .ret) (.seq (.rg (.op .no (.bin .eql 63 q1l qn) .loc q39)) (.cond q27 (.seq (.rg (.op .no q4g .loc (.op .no qm .loc (.op .no qcm .loc (.op .no (.bld [(.mk 0 1 qcn), (.mk 1 1 q15), qaq] [(.int .u8 (.ofNat 0)), (.int .i64 (.ofNat 0)), (.int .i64 (.ofNat 0))]) .loc q61))))) .ret) (.seq (.rg (.op .no (.bin .eql 63 q1l qbk) .loc q8y)) (.cond q2i (.seq (.rg (.op .no q4g .loc (.op .no qm .loc (.op .no q4g .loc (.op .no qm .loc (.op .no qcp .loc q61)))))) .ret) .skip)))))))) (.seq (.rg (.op .no q4g .loc (.op .no qm .loc (.op .no (.gen (.unOp UnOp.neg 3 (.tmp 30)) (rfC 4261455 [30, 29])) .loc (.op .no q4g .loc (.op .no qm .loc (.op .no qcr .loc q61))))))) .ret)))))
theorem ck58 : compF Tryz.prog xi58 = some cf58 := by kernel_rfl
noncomputable def xi60 := xiM 60 f60 68751067131
theorem xk60 : TOK xi60 := tabOK1 func60 (by kernel_rfl) (by kernel_rfl) rfl rfl
noncomputable def cf60 : FnC := (.mk 68751067131 49 (.many [q5a, qbo]) (.seq (.rg (.op .no qbr qj (.op .no q8x qz q4w))) (.seq (.seq (.rg (.op .no qbt .loc (.op .no qcs .loc (.op .no q1f .loc (.op .no qu .loc (.op q1g qb .loc (.op q1i (.call (.lit (.clo 122 [])) [qc, (.lit (.clo 123 []))]) .loc (.op .no q94 q1y .fin)))))))) (.cond q1z (.seq (.rg (.op .no q8x qz (.op .no q4n q13 .fin))) .ret) .skip)) (.seq (.rg (.op .no qb .loc (.op .no q1x .loc (.op .no (.gen (.makeSlice 32 (.tmp 19) (.tmp 19)) (rfC 68751067131 [19, 18])) .loc q1c)))) (.seq (.seq qct (.block 0 (.loop (.seq q3x (.seq q3z (.seq (.block 1 (.seq (.rg (.op .no q6t .loc (.op .no (.ias 4 q2b q3v) .loc qcu))) (.seq (.rg (.op .no qbt .loc (.op .no (.fadr 0 q27) .loc (.op .no q2f .loc (.op .no (.call (.lit (.clo 125 [])) [qi, qc]) .loc (.op .no qu .loc (.op .no qw .loc (.op .no q11 .loc (.op .no q8k q2h (.op .no qcv .non q6h)))))))))) (.seq (.seq (.rg (.op .no q5t .loc (.op .no q1f q49 .fin))) (.cond q4a (.seq (.rg (.op .no q8x qz (.op .no (.mv q17) q13 .fin))) .ret) .skip)) (.rg (.op .no q1m .loc (.op .no q34 .loc (.op .no q60 .loc (.op .no (.fadr 3 q27) .loc (.op .no qm .loc (.op .no (.bld [(.mk 0 3 qi), q57] [(.int .i64 (.ofNat 0)), (.int .i64 (.ofNat 0)), (.int .u8 (.ofNat 0)), (.con (.slice Option.none 0 0))]) .loc qc5))))))))))) q45)))))) (.seq (.rg (.op .no q1m .loc (.op .no (.call (.lit (.clo 126 [])) [qc, (.lit (.clo 127 []))]) .loc .fin))) (.seq (.rg (.op .no q1m .loc (.op .no qu qz q4w))) .ret)))))))
theorem ck60 : compF Tryz.prog xi60 = some cf60 := by kernel_rfl
noncomputable def xi63 := xiM 63 f63 504369023
theorem xk63 : TOK xi63 := tabOK1 func63 (by kernel_rfl) (by kernel_rfl) rfl rfl
noncomputable def cf63 : FnC := (.mk 504369023 40 qbp (.seq qbs (.seq qcw (.seq (.seq (.rg (.op .no q28 .loc q5e)) (.cond q2b (.seq (.rg (.op .no q28 .loc (.op .no q8x q13 q1c))) .ret) .skip)) (.seq (.rg (.op .no q34 .loc (.op .no q1x .loc (.op .no (.gen (.makeSlice 91 (.tmp 23) (.tmp 23)) (rfC 504369023 [23, 22])) .loc q8y)))) (.seq (.seq (.rg (.op .no q34 q31 (.op .no (.len q32) q3t (.op .no q20 q3w .fin)))) (.block 0 (.loop (.seq (.rg (.op .no (.bin .lss 3 q3y q3v) q49 .fin)) (.seq (.cond q4a .skip q2c) (.seq (.block 1 (.seq (.rg (.op .no qa1 .loc (.op .no (.ias 3 q32 q3y) .loc (.op .no q2f .loc (.op .no q70 q1y (.op .no q5q qp q5r)))))) (.rg (.op .no q8n .loc (.op .no q5t .loc (.op .no q8s .loc (.op .no (.call (.lit (.clo 133 [])) [qc]) .loc (.op .no qa2 .loc (.op .no (.ias 1 q1p qf) .loc qad))))))))) (.rg (.op .no (.bin .add 3 q3y q35) .loc qcx)))))))) (.seq (.rg (.op .no q8n .loc qcy)) .ret)))))))
theorem ck63 : compF Tryz.prog xi63 = some cf63 := by kernel_rfl
noncomputable def xi67 := xiM 67 f67 67112655
theorem xk67 : TOK xi67 := tabOK1 func67 (by kernel_rfl) (by kernel_rfl) rfl rfl
noncomputable def cf67 : FnC := (.mk 67112655 34 qbp (.seq (.rg (.op .no qbq qz (.op .no qd0 q13 q63))) (.seq (.rg (.op .no qbu .loc (.op .no q4s .loc (.op .no q80 .loc (.op .no (.call (.lit (.clo 139 [])) [qi, qt, qc]) .loc (.op .no qu .loc (.op .no qw .loc (.op .no q11 .loc (.op .no qbw .loc (.op .no (.ext qe qf) .loc (.op .no qd1 .loc (.op .no (.st 2 qc q1p) .non (.op .no (.mv qf) q22 (.op .no q5q q24 (.op .no q74 q2h .fin))))))))))))))) (.seq (.seq (.rg (.op .no q8n .loc (.op .no q1f .loc (.op .no qu .loc (.op q1g q28 .loc (.op q1i qa2 .loc (.op .no q94 qp .fin))))))) (.cond qq (.seq (.rg (.op .no q8n .loc (.op .no qd0 q13 q1c))) .ret) .skip)) (.seq (.rg (.op .no q9q .loc (.op .no qm .loc (.op .no q34 .loc (.op .no q2e .loc (.op .no q1w .loc (.op .no qm .loc qcy))))))) .ret)))))
theorem ck67 : compF Tryz.prog xi67 = some cf67 := by kernel_rfl
noncomputable def xi68 := xiM 68 f68 134481871
theorem xk68 : TOK xi68 := tabOK1 func68 (by kernel_rfl) (by kernel_rfl) rfl rfl
noncomputable def cf68 : FnC := (.mk 134481871 33 qbp (.seq (.rg (.op .no q4d qz qd2)) (.seq (.rg (.op .no qcc .loc (.op .no q4s .loc (.op .no qd3 .loc qd4)))) (.seq (.seq (.rg (.op .no q28 .loc q3m)) (.cond qq (.seq (.rg (.op .no q28 .loc qd5)) .ret) .skip)) (.seq (.rg (.op .no qd6 .loc (.op .no q80 .loc (.op .no qd7 .loc (.op .no qu .loc (.op .no qw .loc (.op .no q11 .loc (.op .no q8k q2h (.op .no qcv .non q39))))))))) (.seq (.seq (.rg (.op .no q28 .loc (.op .no q1f q1y .fin))) (.cond q1z qd8 .skip)) (.seq (.rg (.op .no qcc .loc (.op .no q60 .loc (.op .no (.call (.lit (.clo 142 [])) [qt, qc]) .loc qat)))) .ret)))))))
theorem ck68 : compF Tryz.prog xi68 = some cf68 := by kernel_rfl
noncomputable def xi73 := xiM 73 f73 17389
theorem xk73 : TOK xi73 := tabOK1 func73 (by kernel_rfl) (by kernel_rfl) rfl rfl
noncomputable def cf73 : FnC := (.mk 17389 18 q1 (.seq qd9 (.seq q4b (.seq (.seq qda (.block 0 (.loop (.seq qaw (.seq qax (.seq (.block 1 (.seq (.rg (.op .no (.ias 1 q1d q33) .loc qdb)) (.seq (.rg (.op .no q8l .loc (.op .no q80 .loc (.op .no qdc q2h .fin)))) qdd))) qb2)))))) qde))))
theorem ck73 : compF Tryz.prog xi73 = some cf73 := by kernel_rfl
noncomputable def xi75 := xiM 75 f75 604275
theorem xk75 : TOK xi75 := tabOK1 func75 (by kernel_rfl) (by kernel_rfl) rfl rfl
noncomputable def cf75 : FnC := (.mk 604275 20 q3f (.seq q4b (.seq (.rg (.op .no qb .loc (.op .no qdf .loc q5g))) (.seq (.rg (.op .no q4s .loc (.op .no qdf .loc q3l))) (.seq qdi (.seq qdj (.seq (.seq (.rg (.op .no qb .loc qdl)) (.cond q2i qdh .skip)) (.seq (.seq (.rg (.op .no qb .loc (.op .no q4s .loc (.op .no qdm qp .fin)))) qdn) q4c))))))))
theorem ck75 : compF Tryz.prog xi75 = some cf75 := by kernel_rfl
noncomputable def xi80 := xiM 80 f80 133175
theorem xk80 : TOK xi80 := tabOK1 func80 (by kernel_rfl) (by kernel_rfl) rfl rfl
noncomputable def cf80 : FnC := (.mk 133175 30 qcd (.seq (.rg (.op .no qcj q4 (.op .no q70 qj .fin))) (.seq (.seq (.rg (.op .no q3s .loc (.op .no qm qz .fin))) (.block 0 (.seq (.rg (.op .no (.bin .eql 63 q10 qg) .loc q3l)) (.cond q1d (.seq (.rg (.op .no q4g .loc (.op .no qm .loc (.op .no qcm .loc (.op .no qdo .loc qci))))) .ret) (.seq (.rg (.op .no (.bin .eql 63 q10 qn) .loc q1c)) (.cond q1l (.seq (.rg (.op .no q4g .loc (.op .no qm .loc (.op .no qcm .loc (.op .no qdp .loc qci))))) .ret) (.seq (.rg (.op .no (.bin .eql 63 q10 qbk) .loc q37)) (.cond q33 (.seq (.rg (.op .no q4g .loc (.op .no qm .loc (.op .no q4g .loc (.op .no qm .loc (.op .no qcp .loc qci)))))) .ret) .skip)))))))) (.seq (.rg (.op .no q4g .loc (.op .no qm .loc (.op .no (.gen (.unOp UnOp.neg 3 (.tmp 25)) (rfC 133175 [25, 24])) .loc (.op .no q4g .loc (.op .no qm .loc (.op .no qcr .loc qci))))))) .ret))))
theorem ck80 : compF Tryz.prog xi80 = some cf80 := by kernel_rfl
noncomputable def xi81 := xiM 81 f81 590297956605403070495
theorem xk81 : TOK xi81 := tabOK1 func81 (by kernel_rfl) (by kernel_rfl) rfl rfl
noncomputable def cf81 : FnC := (.mk 590297956605403070495 71 q3f (.seq (.rg (.op .no (.box 78 qa) q4 q3h)) (.seq (.seq (.rg (.op .no q3s .loc (.op .no q52 .loc (.op .no q92 .loc (.op .no q1f .loc (.op .no qu .loc (.op q1g qce .loc (.op q1i qm .loc (.op q1k q93 .loc (.op .no q4h .loc (.op .no qu .loc (.op q1g (.fadr 4 q0) .loc (.op q1i qm .loc (.op q1k (.bin .gtr 76 qc qbk) .loc (.op .no q4h .loc (.op .no qu .loc (.op q1g (.fadr 5 q0) .loc (.op q1i qm .loc (.op q1k q95 .loc (.op .no q4h .loc (.op .no qu .loc (.op q1g (.fadr 4 q0) .loc (.op q1i qm .loc (.op q1k (.bin .neq 76 qc qn) .loc (.op q1n qu .loc (.op q2k (.fadr 5 q0) .loc (.op q2m qm .loc (.op q2n qdq .loc (.op q2w q2s .loc (.op .no q2z .loc (.op .no qu .loc (.op q1g qas .loc (.op q1i qm .loc (.op q1k q1x .loc (.op q1n q4f .loc (.op .no qdr .loc (.op .no qu .loc (.op q1g qas .loc (.op q1i qm .loc (.op q1k q1x .loc (.op q1n (.bin .gtr 3 qc (.lit (.int .i64 (.ofNat 64)))) .loc (.op .no qdr q1b .fin)))))))))))))))))))))))))))))))))))))))))) (.cond q1l q4p .skip)) (.seq (.seq (.rg (.op .no qas .loc (.op .no qm q22 qds))) (.block 0 (.loop (.seq qdt (.seq q84 (.seq (.block 1 (.seq (.rg (.op .no q8n .loc (.op .no (.ias 1 q33 q2i) .loc (.op .no qm .loc (.op .no q5q qz q3l))))) (.seq (.rg (.op .no q1e .loc (.op .no q95 .loc (.op .no qu .loc (.op q1g q8l .loc (.op q1i qdu .loc (.op q1k qu .loc (.op q2k q1e .loc (.op q2m qas .loc (.op q2n qm .loc (.op q2o q8l .loc (.op q8p q9t .loc (.op qdv q19 .loc (.op qdw qm .loc (.op q2r (.bin .leq 3 q4l qc) .loc (.op qdx (.pick q2u qc q2) .loc (.op .no (.pick qdy q1t qc) q1y .fin))))))))))))))))) (.cond q1z q4p .skip)))) qdz)))))) q4c))))
theorem ck81 : compF Tryz.prog xi81 = some cf81 := by kernel_rfl
noncomputable def xi82 := xiM 82 f82 257698038015
theorem xk82 : TOK xi82 := tabOK1 func82 (by kernel_rfl) (by kernel_rfl) rfl rfl
noncomputable def cf82 : FnC := (.mk 257698038015 53 (.one (.cell 10 true q1d)) (.seq (.rg (.op .no q3g qj (.op .no q8w qz (.op .no q6e q13 .fin)))) (.seq (.rg (.op .no q64 .loc (.op .no (.bld [(.mk 0 7 qc)] [(.int .i64 (.ofNat 0)), (.int .i64 (.ofNat 0)), (.con (.slice Option.none 0 0)), (.int .u8 (.ofNat 0)), (.int .i64 (.ofNat 0)), (.int .i64 (.ofNat 0)), (.con (.slice Option.none 0 0)), (.con (.slice Option.none 0 0)), (.con (.slice Option.none 0 0)), (.con (.slice Option.none 0 0))]) .loc (.op .no q6e q1b (.op .no (.st 10 q1l qc) .non .fin))))) (.seq (.rg (.op .no q9h .loc (.op .no q2f .loc (.op .no q78 .loc (.op .no q2f .loc (.op .no (.call (.lit (.clo 47 [])) [qi, qc]) .loc (.op .no qu .loc (.op .no qw .loc (.op .no q11 .loc (.op .no (.fadr 7 q1l) .loc qar)))))))))) (.seq (.rg (.op .no q9h .loc (.op .no q2f .loc (.op .no q78 .loc (.op .no q2f .loc (.op .no (.call (.lit (.clo 147 [])) [qi, qc]) .loc (.op .no qu .loc (.op .no qw .loc (.op .no q11 .loc (.op .no (.fadr 8 q1l) .loc qar)))))))))) (.seq (.rg (.op .no (.fadr 7 q1l) .loc (.op .no qm .loc (.op .no q1x .loc (.op .no (.gen (.makeSlice 38 (.tmp 30) (.tmp 30)) (rfC 257698038015 [30, 29, 28])) .loc (.op .no (.fadr 9 q1l) .loc qad)))))) (.seq (.seq (.rg (.op .no (.fadr 7 q1l) .loc qe0)) (.block 0 (.loop (.seq qe1 (.seq q2d (.seq (.block 1 (.seq (.rg (.op .no q6o .loc (.op .no (.ias 3 q2i q1z) .loc qe2))) (.rgd (.op .no qe3 .loc (.op .no (.soft qe4) .loc (.op .no (.hard (.call (.lit (.clo 120 [])) [qt, qc])) .loc (.op .no (.soft (.fadr 9 q1l)) .loc (.op .no (.softw qm 1 (.load 38 (.tmp 42)) (rfR 257698038015 [42, 47, 46, 45] [42])) .loc (.op .no q85 .loc (.op .no (.soft (.mv qf)) .loc (.op .no qx .loc (.op .no (.soft (.ias 1 qf qi)) .loc (.op .no (.hard (.st 1 qc qt)) .non (.op .no q8h .loc .fin))))))))))) 0))) qe5)))))) (.seq (.rg (.op .no (.ld 10 true q1l) .loc (.op .no (.st 10 q1d qc) .non .fin))) .ret))))))))
theorem ck82 : compF Tryz.prog xi82 = some cf82 := by kernel_rfl
noncomputable def xi83 := xiM 83 f83 8858372319
theorem xk83 : TOK xi83 := tabOK1 func83 (by kernel_rfl) (by kernel_rfl) rfl rfl
noncomputable def cf83 : FnC := (.mk 8858372319 48 q7x (.seq (.rg (.op .no qe6 qz (.op .no (.box 78 q0) q13 q63))) (.seq (.rg (.op .no qb7 .loc (.op .no qm .loc (.op .no q1x .loc q37)))) (.seq (.block 0 (.seq (.rg (.op .no qe7 .loc (.op .no qm .loc (.op .no qe7 .loc (.op .no qm .loc (.op .no q1x .loc (.op .no q9t .loc (.op .no qe8 .loc (.op .no qm .loc (.op .no q34 .loc (.op .no qe9 .loc (.op .no qu .loc (.op q1g (.fadr 5 q1d) .loc (.op q1i qm .loc (.op q1k q34 .loc (.op q1n qe9 .loc (.op .no qdr .loc q39))))))))))))))))) (.cond q27 (.seq (.rg q6y) .ret) (.seq (.rg (.op .no qe7 .loc (.op .no qm .loc (.op .no (.gen (.makeFunc (Fn.func 149) (Array.mk []) (Array.mk [(.tmp 3), (.tmp 4)])) (rfC 8858372319 [30, 29])) .loc (.op .no qea .loc q8y))))) (.cond q2i qeb (.seq (.rg (.op .no (.fadr 4 q1d) .loc (.op .no qm .loc (.op .no (.bin .eql 76 qc qn) .loc (.op .no qu .loc (.op q2k q80 .loc (.op q2m (.bin .neq 91 qc q6g) .loc (.op .no q8m .loc (.op .no qu .loc (.op q2k q80 .loc (.op q2m (.fadr 5 q1d) .loc (.op q2n qm .loc (.op q2o q19 .loc (.op q8p qm .loc (.op .no q8r .loc q6h))))))))))))))) (.cond qq qeb .skip))))))) q82))))
theorem ck83 : compF Tryz.prog xi83 = some cf83 := by kernel_rfl
noncomputable def xi84 := xiM 84 f84 23
theorem xk84 : TOK xi84 := tabOK1 func84 (by kernel_rfl) (by kernel_rfl) rfl rfl
noncomputable def cf84 : FnC := (.mk 23 9 qec (.seq qee (.seq (.rg (.op .no (.ld 10 true qk) .loc (.op .no q4s .loc (.op .no (.gen (.makeFunc (Fn.func 151) (Array.mk []) (Array.mk [(.tmp 2)])) (rfC 23 [6, 5])) .loc (.op .no (.call (.lit (.clo 150 [])) [qi, qt, qc]) .loc q5g))))) .ret)))
theorem ck84 : compF Tryz.prog xi84 = some cf84 := by kernel_rfl
noncomputable def xi85 := xiM 85 f85 309487371022600904070159095
theorem xk85 : TOK xi85 := tabOK1 func85 (by kernel_rfl) (by kernel_rfl) rfl rfl
noncomputable def cf85 : FnC := (.mk 309487371022600904070159095 111 qef (.seq (.rg (.op .no qe6 qj (.op .no q5c qz q4w))) (.seq (.rg (.op .no q9h .loc (.op .no q50 .loc (.op .no q50 .loc (.op .no q52 .loc (.op .no q4u .loc (.op .no q5c q1b q9g))))))) (.seq (.rg (.op .no qc1 .loc (.op .no q52 .loc (.op .no (.call (.lit (.clo 66 [])) [qc]) .loc (.op .no qu .loc (.op .no qw .loc (.op .no q11 .loc (.op .no q74 q22 q71)))))))) (.seq q26 (.seq (.seq (.rg (.op .no q34 q2a q3u)) (.block 0 (.loop (.seq q3x (.seq q3z (.seq (.block 1 (.seq (.rg (.op .no (.ias 2 q2b q3v) .loc (.op .no q52 .loc (.op .no qd1 q2h qeg)))) (.seq (.rg (.op .no qc1 .loc (.op .no q52 .loc (.op .no q2l .loc (.op .no qm .loc (.op .no q2p .loc (.op .no qm .loc (.op .no qeh .loc qei)))))))) (.seq (.rg (.op .no q9h .loc (.op .no q50 .loc (.op .no q2f .loc (.op .no q2l .loc (.op .no qm .loc (.op .no q2p .loc (.op .no qm .loc (.op .no (.call (.lit (.clo 67 [])) [q1p, qi, qc]) .loc (.op .no qu .loc (.op .no qw .loc (.op .no q11 .loc (.op .no q74 q1y q71))))))))))))) (.seq (.block 2 (.seq (.rgd (.op .no q72 .loc (.op .no (.soft qej) .loc (.op .no qv .loc (.op q2k qbf .loc (.op q2m (.soft q2l) .loc (.op q2n q5s .loc (.op q2o qek .loc (.op q8p q5s .loc (.op qdv qbf .loc (.op qdw (.soft q5t) .loc (.op q2r q88 .loc (.op q2v q5s .loc (.op qel (.soft (.bin .neq 4 q1p qc)) .loc (.op .no qem .loc (.op .no qv q49 .fin))))))))))))))) 0) (.cond q4a (.seq qen q3a) (.seq (.rg (.op .no q6o .loc (.op .no qeo .loc (.op .no qu .loc (.op q2k q4s .loc (.op q2m q2l .loc (.op q2n qm .loc (.op q2o q19 .loc (.op q8p qm .loc (.op qdv qu .loc (.op q1g q4s .loc (.op q1i q5t .loc (.op q1k q87 .loc (.op q1n qm .loc (.op qep qdr .loc (.op .no (.pick qbl qc q2) .loc q96)))))))))))))))) (.cond q5n qen .skip))))) (.seq (.rg (.op .no q6o .loc (.op .no qeo q7a .fin))) (.cond q7b (.rg (.op .no qeq .loc (.op .no qm .loc (.op .no q2l .loc (.op .no qm .loc (.op .no q2p .loc (.op .no qm .loc (.op .no q6o .loc (.op .no (.bld [qer, (.mk 1 1 qt), qaq] [(.int .i64 (.ofNat 0)), (.int .u8 (.ofNat 0)), (.int .u8 (.ofNat 0))]) .loc (.op .no (.bsl 84 1 3 [qc]) .loc (.op .no (.app 27 84 3 16 q2q qc) .loc (.op .no qeq .loc qad)))))))))))) .skip))))))) q45)))))) (.seq (.rg (.op .no qeq .loc (.op .no qm .loc (.op .no (.call (.lit (.clo 134 [])) [qc, (.lit (.clo 152 []))]) .loc .fin)))) (.seq (.rg (.op .no qeq .loc (.op .no qm .loc (.op .no qcf .loc (.op .no qcg .loc (.op .no qeq .loc qad)))))) (.seq (.rg (.op .no q9w .loc (.op .no q28 .loc (.op .no qes .non q3l)))) .ret)))))))))
theorem ck85 : compF Tryz.prog xi85 = some cf85 := by kernel_rfl
end
end Go.Proofs.YtmhhmaopnjfcgaaGreatDoor.V.I
