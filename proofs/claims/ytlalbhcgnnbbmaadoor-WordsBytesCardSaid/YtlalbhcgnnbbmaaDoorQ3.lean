/- A part of the proof: what the functions of the program compute. -/
import Derived.Test.YtlalbhcgnnbbmaaDoorQ2
namespace Go.UK
open Go
set_option linter.all false
theorem loopFold {σ : Type} (n : Nat) (hn : n < 9223372036854775807) (st : σ → Nat → σ) (F : Nat → σ → Int → Option σ)
    (hstep : ∀ k s i, i < n → F (k + 1) s (i : Int) = F k (st s i) (I64 ((i : Int) + 1))) (hend : ∀ k s, F (k + 1) s (n : Int) = some s) :
    ∀ (k i : Nat) (s : σ), i ≤ n → n - i < k → F k s (i : Int) = some ((List.range' i (n - i)).foldl st s)
  | 0, i, _, _, h => by omega
  | k + 1, i, s, hi, hk => by
    by_cases h : i < n
    · rw [hstep k s i h, I64_s (by omega), loopFold n hn st F hstep hend k (i + 1) _ (by omega) (by omega), show n - i = (n - (i + 1)) + 1 by omega, List.range'_succ, List.foldl_cons]
    · obtain rfl : i = n := by omega
      rw [hend, Nat.sub_self]; simp
theorem loopFold0 {σ : Type} (n : Nat) (hn : n < 9223372036854775807) (st : σ → Nat → σ) (F : Nat → σ → Int → Option σ)
    (hstep : ∀ k s i, i < n → F (k + 1) s (i : Int) = F k (st s i) (I64 ((i : Int) + 1))) (hend : ∀ k s, F (k + 1) s (n : Int) = some s) {N : Nat} (hN : n < N) (s : σ) : F N s 0 = some ((List.range n).foldl st s) := by
  have := loopFold n hn st F hstep hend N 0 s (by omega) (by omega)
  rw [Nat.sub_zero, ← List.range_eq_range'] at this
  exact this
/-- an array, filled one by one -/
theorem loopVec {α : Type} {m : Nat} (hm : m < 9223372036854775807) (g : Nat → α) (F : Nat → Vector α m → Int → Option (Vector α m))
    (hstep : ∀ k v i, i < m → F (k + 1) v (i : Int) = F k (v.setIfInBounds i (g i)) (I64 ((i : Int) + 1))) (hend : ∀ k v, F (k + 1) v (m : Int) = some v) :
    ∀ (k i : Nat) (v : Vector α m), i ≤ m → m - i < k → v.toList.take i = (List.range i).map g → ∃ v', F k v (i : Int) = some v' ∧ v'.toList = (List.range m).map g
  | 0, i, _, _, h, _ => by omega
  | k + 1, i, v, hi, hk, hv => by
    by_cases h : i < m
    · rw [hstep k v i h, I64_s (by omega)]
      refine loopVec hm g F hstep hend k (i + 1) _ (by omega) (by omega) ?_
      have e : (v.setIfInBounds i (g i)).toList = v.toList.set i (g i) := by simp
      rw [e, List.range_succ, List.map_append, ← hv, List.take_succ, List.take_set_of_le (Nat.le_refl _)]
      congr 1
      rw [List.getElem?_set_self (by simp; omega)]
      rfl
    · obtain rfl : i = m := by omega
      refine ⟨v, hend _ _, ?_⟩
      rw [← hv, List.take_of_length_le (by simp)]
theorem loopVec0 {α : Type} {m : Nat} (hm : m < 9223372036854775807) (g : Nat → α) (F : Nat → Vector α m → Int → Option (Vector α m))
    (hstep : ∀ k v i, i < m → F (k + 1) v (i : Int) = F k (v.setIfInBounds i (g i)) (I64 ((i : Int) + 1))) (hend : ∀ k v, F (k + 1) v (m : Int) = some v) {N : Nat} (hN : m < N) (v : Vector α m) :
    ∃ v', F N v 0 = some v' ∧ v'.toList = (List.range m).map g :=
  loopVec hm g F hstep hend N 0 v (by omega) (by omega) (by simp)
theorem vec_get? {α : Type} {m : Nat} (v : Vector α m) {i : Nat} (h : i < m) : v.toList[i]? = some v[i] := by simp [h]
end Go.UK
