/- A part of the proof: what the functions of the program compute. -/
import Derived.Test.YtlalbhcgnnbbmaaDoorQ0
namespace Go.UK
open Go
set_option linter.all false
/-! ### loops that hold two lists against each other -/
theorem eqL_refl {α : Type} {eq : α → α → Bool} (h : ∀ a, eq a a = true) : ∀ l : List α, eqL eq l l = true
  | [] => rfl
  | a :: l => by simp [eqL, h, eqL_refl h l]
theorem loopEq {α : Type} (eq : α → α → Bool) (a b : List α) (hab : a.length = b.length) (hl : a.length ≤ 9223372036854775807) (F : Nat → Int → Option (Sum Unit Bool))
    (h1 : ∀ k s x y, s < (a.length : Int) → idx a s = some x → idx b s = some y → eq x y = true → F (k + 1) s = F k (I64 (s + 1)))
    (h2 : ∀ k s x y, s < (a.length : Int) → idx a s = some x → idx b s = some y → eq x y = false → F (k + 1) s = some (Sum.inr false))
    (h3 : ∀ k s, ¬ s < (a.length : Int) → F (k + 1) s = some (Sum.inl ())) :
    ∀ (k i : Nat), i ≤ a.length → a.length - i < k → F k (i : Int) = some (if eqL eq (a.drop i) (b.drop i) = true then Sum.inl () else Sum.inr false) := by
  intro k
  induction k with
  | zero => intro i _ h; omega
  | succ k ih =>
    intro i hi hk
    by_cases hlt : i < a.length
    · rw [List.drop_eq_getElem_cons hlt, List.drop_eq_getElem_cons (show i < b.length by omega)]
      cases hq : eq a[i] b[i] with
      | true =>
        rw [h1 k i _ _ (by omega) (idx_at hlt) (idx_at (by omega)) hq, I64_s (by omega), ih (i + 1) hlt (by omega)]
        simp [eqL, hq]
      | false =>
        rw [h2 k i _ _ (by omega) (idx_at hlt) (idx_at (by omega)) hq]
        simp [eqL, hq]
    · rw [h3 k i (by omega), List.drop_of_length_le (by omega), List.drop_of_length_le (by omega)]
      rfl
theorem eqL_len {α : Type} {eq : α → α → Bool} : ∀ {a b : List α}, a.length ≠ b.length → eqL eq a b = false
  | [], [], h => absurd rfl h
  | [], _ :: _, _ => rfl
  | _ :: _, [], _ => rfl
  | x :: xs, y :: ys, h => by simp [eqL, eqL_len (a := xs) (b := ys) (by simpa using h)]
theorem sumIf {c : Bool} : (Option.bind (some (if c = true then (Sum.inl () : Sum Unit Bool) else Sum.inr false)) fun o => sumC o (fun _ => some true) (fun r => some r)) = some c := by cases c <;> rfl
abbrev eqI (a b : Int) : Bool := a == b
theorem eqL_eq {α : Type} {eq : α → α → Bool} (h : ∀ a b, eq a b = true → a = b) : ∀ {l r : List α}, eqL eq l r = true → l = r
  | [], [], _ => rfl
  | [], _ :: _, e => by simp [eqL] at e
  | _ :: _, [], e => by simp [eqL] at e
  | a :: l, b :: r, e => by
    simp only [eqL, Bool.and_eq_true] at e
    rw [h _ _ e.1, eqL_eq h e.2]
end Go.UK
