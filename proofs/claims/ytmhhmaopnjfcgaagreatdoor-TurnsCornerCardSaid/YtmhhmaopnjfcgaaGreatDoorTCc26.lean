/-
  Parts of the proof: T50g J11. Conditions: none.
-/
import Derived.Test.YtmhhmaopnjfcgaaGreatDoorTCc8
import Derived.Test.YtmhhmaopnjfcgaaGreatDoorTCc21
import Derived.Test.YtmhhmaopnjfcgaaGreatDoorTCc22
import Derived.Test.YtmhhmaopnjfcgaaGreatDoorTCc23
import Derived.Test.YtmhhmaopnjfcgaaGreatDoorTCc24
import Derived.Test.YtmhhmaopnjfcgaaGreatDoorTCc25
namespace Go.Proofs.YtmhhmaopnjfcgaaGreatDoor.V.I
open Go
noncomputable def gsG : List GI := gsF ++ [⟨10, orG (pairG [tg1, tg2, tg3, tg4]) (memoG E9 tbE 3000 60 10)⟩]
set_option maxRecDepth 100000
theorem gsGm : GOK E9.P E9.glob 10 (memoG E9 tbE 3000 60 10) := memoG_ok (lm := 3000) (n := 60) E9_ok mixed tbA_ok cs4_ok hsA_ok gsE_ok 10
theorem gsGt : ∀ x ∈ [tg1, tg2, tg3, tg4], ToldOK (memoG E9 tbE 3000 60 10) x := told_cons (g := memoG E9 tbE 3000 60 10) (x := tg1) (l := [tg2,tg3,tg4]) tg1_ok (told_cons (g := memoG E9 tbE 3000 60 10) (x := tg2) (l := [tg3,tg4]) tg2_ok (told_cons (g := memoG E9 tbE 3000 60 10) (x := tg3) (l := [tg4]) tg3_ok (told_cons (g := memoG E9 tbE 3000 60 10) (x := tg4) (l := []) tg4_ok (told_nil))))
theorem gsG_ok : MGOK E9.P E9.glob gsG := mgOK_one (orG_ok (pairG_ok gsGm gsGt) gsGm) gsF_ok
noncomputable def tbG : Tr FJ := mkTab tbA cs4 hsA gsG
section
variable {E : Env} {lm : Nat}
noncomputable def okAll (F : Nat → Bool) (c : Nat) : Nat → Bool := Nat.rec (motive := fun _ => Nat → Bool) (fun _ => true) (fun _ ih s => Bool.rec (motive := fun _ => Bool) false (ih (Nat.succ s)) (F s)) c
theorem okAll_spec {F : Nat → Bool} : ∀ (c s : Nat), okAll F c s = true → ∀ m, s ≤ m → m < s + c → F m = true
 | 0, s, _, m, h1, h2 => by omega
 | c + 1, s, h, m, h1, h2 => by
  have h : (Bool.rec (motive := fun _ => Bool) false (okAll F c (Nat.succ s)) (F s) : Bool) = true := h
  cases hF : F s with
  | false => rw [hF] at h; cases h
  | true =>
   rw [hF] at h
   by_cases e : m = s
   ·
    subst e; exact hF
   ·
    exact okAll_spec c (s + 1) h m (by omega) (by omega)
theorem psound_arg {tb : List FnJ} {cs : List ConI} {hs : List ConH} {gs : List GI} (hE : EnvOK E) (hm : E.P.follows .mixedOrders = true) (htb : TabJOK E.P tb) (hcs : ConOK E.P E.glob cs) (hhs : ConHOK E.P E.glob hs) (hgs : MGOK E.P E.glob gs) {f : FuncId} (hfn : ∃ fn, E.P.funcs[f]? = some fn ∧ (fn.name == "runtime.NumGoroutine") = false ∧ fn.body.isNone = false) {n : Nat}
  (hrun : ∀ m : Nat, m < 256 → okT (runJ E (mkTab tb cs hs gs) lm n f [.int .u8 (Int.ofNat m)] .lf 0) = true) : PSound E.P E.glob f (fun xs => match xs with | [.int .u8 x] => if 0 ≤ x ∧ x < 256 then some (True, .bool true) else none | _ => none) := by
 refine psound_of_call (fun B0 w0 => runJ_sound (lm := lm) hE hm htb hcs hhs hgs n) hfn (fun args p s h => ?_)
 split at h
 ·
  rename_i x
  split at h
  ·
   rename_i hx
   cases h
   obtain ⟨m, rfl⟩ : ∃ m : Nat, x = Int.ofNat m := ⟨x.toNat, by show x = (x.toNat : Int); omega⟩
   have hm256 : m < 256 := by have := hx.2; simp at this; omega
   obtain ⟨q, T, t, k, e⟩ := okT_spec (hrun m hm256)
   refine ⟨rfl, rfl, ⟨t, k⟩, ?_⟩
   show (match runJ E (mkTab tb cs hs gs) lm n f [.int .u8 (Int.ofNat m)] .lf 0 with | .ok _ s _ h' n' => some (s, (⟨h', n'⟩ : Hp)) | .bad => none) = _
   rw [e]
  ·
   cases h
 ·
  cases h
end
end Go.Proofs.YtmhhmaopnjfcgaaGreatDoor.V.I
