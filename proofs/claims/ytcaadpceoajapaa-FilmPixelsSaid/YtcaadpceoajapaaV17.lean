/- A part of the proof: what the functions of the program compute. -/
import Derived.Test.YtcaadpceoajapaaV16
namespace Go.UK
open Go Go.Proofs
set_option maxRecDepth 20000
set_option maxHeartbeats 2000000
set_option linter.all false

/-- the root of what is not nothing is not nothing -/
theorem rootPos (N : Nat) (hi lo : Int) (hlo : 0 ≤ lo) (hlo' : lo < 18446744073709551616) (hh : 0 ≤ hi) (hS : 1 ≤ hi * 18446744073709551616 + lo) (k : Nat) : ∀ (j : Nat), j ≤ 63 →
    ∃ r, p_umbraref02_Root_L1 N hi lo (k + j + 1 + 1) 0 (j : Int) = some r ∧ 1 ≤ r
  | j, hj => by
    rw [p_umbraref02_Root_L1, dt (show (j : Int) ≥ 0 by omega)]
    simp only [cond_true]
    rw [shlO_ok _ (show (0 : Int) ≤ (j : Int) by omega), shl1 j (by omega)]
    simp only [Option.bind_some]
    have hp : (0 : Int) < 2 ^ j := Int.pow_pos (by decide)
    have hlt : (2 : Int) ^ j < 18446744073709551616 := by
      have h8 : (2 : Nat) ^ j < 18446744073709551616 := Nat.lt_of_lt_of_eq (Nat.pow_lt_pow_right (by decide) (show j < 64 by omega)) (by rfl : 2 ^ 64 = 18446744073709551616)
      have h9 : ((2 ^ j : Nat) : Int) < 18446744073709551616 := by omega
      rw [Int.natCast_pow] at h9
      exact h9
    have hu : U64 (0 + 2 ^ j) = 2 ^ j := by rw [Int.zero_add]; exact U64_id (by omega) hlt
    rw [hu, mul64 N (Int.le_of_lt hp) hlt (Int.le_of_lt hp) hlt]
    simp only [Option.bind_some, letO_e]
    have hi2 : I64 ((j : Int) - 1) = (j : Int) - 1 := I64_id (by omega) (by omega)
    rw [hi2]
    have yes : (2 : Int) ^ j * 2 ^ j ≤ hi * 18446744073709551616 + lo → ∃ r, p_umbraref02_Root_L1 N hi lo (k + j + 1) (2 ^ j) ((j : Int) - 1) = some r ∧ 1 ≤ r := by
      intro hle
      obtain ⟨r, g1, g2, _⟩ := rootBd N hi lo hlo hlo' k j (2 ^ j) (by omega) (Int.le_of_lt hp) hlt ⟨1, by simp⟩ hle
      exact ⟨r, g1, by omega⟩
    have no : ¬ (2 : Int) ^ j * 2 ^ j ≤ hi * 18446744073709551616 + lo → ∃ r, p_umbraref02_Root_L1 N hi lo (k + j + 1) 0 ((j : Int) - 1) = some r ∧ 1 ≤ r := by
      intro hn
      cases j with
      | zero => simp at hn; omega
      | succ j =>
        have := rootPos N hi lo hlo hlo' hh hS k j (by omega)
        rw [show k + (j + 1) + 1 = k + j + 1 + 1 by omega, show ((j + 1 : Nat) : Int) - 1 = (j : Int) by omega]
        exact this
    generalize (2 : Int) ^ j * 2 ^ j = Q at *
    by_cases hQ : Q ≤ hi * 18446744073709551616 + lo
    · by_cases h7 : Q / 18446744073709551616 < hi
      · rw [dt h7]; simp only [cond_true, Option.bind_some]; exact yes hQ
      · have e : Q / 18446744073709551616 = hi := by omega
        rw [df h7, e]
        simp only [cond_false, beq_self_eq_true, cond_true, Option.bind_some]
        rw [dt (show Q % 18446744073709551616 ≤ lo by omega)]
        simp only [cond_true, Option.bind_some]
        exact yes hQ
    · rw [df (show ¬ Q / 18446744073709551616 < hi by omega)]
      simp only [cond_false]
      have hc : (cond (Q / 18446744073709551616 == hi) (decide (Q % 18446744073709551616 ≤ lo)) false) = false := by
        cases h9 : (Q / 18446744073709551616 == hi) with
        | false => rfl
        | true => have h9 := eq_of_beq h9; exact df (by omega)
      rw [hc]
      simp only [Option.bind_some, cond_false]
      exact no hQ
end Go.UK
