/- A part of the proof: what the functions of the program compute. -/
import Derived.Test.YtcaadpceoajapaaV12
namespace Go.UK
open Go Go.Proofs
set_option maxRecDepth 20000
set_option maxHeartbeats 2000000
set_option linter.all false

/-- a sum of sizes in two words -/
theorem add64 {x y c : Int} (hx : 0 ≤ x) (hy : 0 ≤ y) (hc : 0 ≤ c) (hc' : c ≤ 1) : p_Add64 x y c = some ((x + y + c) % 18446744073709551616, (x + y + c) / 18446744073709551616) := by
  unfold p_Add64
  rw [dt hx, dt hy, dt hc, dt hc']
  rfl

/-- ref02's root: never beyond, never below where it began -/
theorem rootBd (N : Nat) (hi lo : Int) (hlo : 0 ≤ lo) (hlo' : lo < 18446744073709551616) (k : Nat) : ∀ (j : Nat) (s : Int), j ≤ 64 → 0 ≤ s → s < 18446744073709551616 → (∃ X : Nat, s = (2 : Int) ^ j * X) → s * s ≤ hi * 18446744073709551616 + lo →
    ∃ r, p_umbraref02_Root_L1 N hi lo (k + j + 1) s ((j : Int) - 1) = some r ∧ s ≤ r ∧ r < 18446744073709551616 ∧ r * r ≤ hi * 18446744073709551616 + lo
  | 0, s, _, h0, h1, _, h2 => by
    rw [p_umbraref02_Root_L1, df (show ¬ (((0 : Nat) : Int) - 1 ≥ 0) by decide)]
    exact ⟨s, rfl, Int.le_refl _, h1, h2⟩
  | j + 1, s, hj, h0, h1, ⟨X, hX⟩, h2 => by
    rw [p_umbraref02_Root_L1, dt (show ((j + 1 : Nat) : Int) - 1 ≥ 0 by omega)]
    simp only [cond_true]
    have e2 : ((j + 1 : Nat) : Int) - 1 = (j : Int) := by omega
    rw [e2, shlO_ok _ (show (0 : Int) ≤ (j : Int) by omega), shl1 j (by omega)]
    simp only [Option.bind_some]
    have hp : (0 : Int) < 2 ^ j := Int.pow_pos (by decide)
    have hp2 : (2 : Int) ^ (j + 1) = 2 ^ j * 2 := Int.pow_succ ..
    have hlt : s + 2 ^ j < 18446744073709551616 := by
      have e64 : (18446744073709551616 : Int) = 2 ^ (j + 1) * 2 ^ (63 - j) := by rw [← Int.pow_add, show j + 1 + (63 - j) = 64 by omega]; rfl
      have hx1 : (X : Int) < 2 ^ (63 - j) := by
        rw [hX, e64] at h1
        exact Int.lt_of_mul_lt_mul_left h1 (Int.le_of_lt (Int.pow_pos (by decide)))
      have hx2 : (2 : Int) ^ (j + 1) * X + 2 ^ (j + 1) ≤ 2 ^ (j + 1) * 2 ^ (63 - j) := by
        have : (2 : Int) ^ (j + 1) * (X + 1) ≤ 2 ^ (j + 1) * 2 ^ (63 - j) := Int.mul_le_mul_of_nonneg_left (by omega) (Int.le_of_lt (Int.pow_pos (by decide)))
        rwa [Int.mul_add, Int.mul_one] at this
      rw [← hX, ← e64] at hx2
      omega
    have hu : U64 (s + 2 ^ j) = s + 2 ^ j := U64_id (by omega) hlt
    rw [hu]
    have hs0 : 0 ≤ s + 2 ^ j := by omega
    rw [mul64 N hs0 hlt hs0 hlt]
    simp only [Option.bind_some, letO_e]
    have hi2 : I64 ((j : Int) - 1) = (j : Int) - 1 := I64_id (by omega) (by omega)
    rw [hi2, show k + (j + 1) = k + j + 1 by omega]
    have yes : (s + 2 ^ j) * (s + 2 ^ j) ≤ hi * 18446744073709551616 + lo → ∃ r, p_umbraref02_Root_L1 N hi lo (k + j + 1) (s + 2 ^ j) ((j : Int) - 1) = some r ∧ s ≤ r ∧ r < 18446744073709551616 ∧ r * r ≤ hi * 18446744073709551616 + lo := by
      intro hle
      obtain ⟨r, g1, g2, g3, g4⟩ := rootBd N hi lo hlo hlo' k j (s + 2 ^ j) (by omega) hs0 hlt ⟨2 * X + 1, by rw [hX, hp2]; push_cast; grind⟩ hle
      exact ⟨r, g1, by omega, g3, g4⟩
    have no := rootBd N hi lo hlo hlo' k j s (by omega) h0 h1 ⟨2 * X, by rw [hX, hp2]; push_cast; grind⟩ h2
    generalize (s + 2 ^ j) * (s + 2 ^ j) = Q at *
    cases h7 : decide (Q / 18446744073709551616 < hi) with
    | true =>
      simp only [cond_true, Option.bind_some]
      simp only [decide_eq_true_eq] at h7
      exact yes (by omega)
    | false =>
      simp only [cond_false, Option.bind_some]
      cases h8 : (cond (Q / 18446744073709551616 == hi) (decide (Q % 18446744073709551616 ≤ lo)) false) with
      | true =>
        simp only [cond_true, Option.bind_some]
        cases h9 : (Q / 18446744073709551616 == hi) with
        | false => rw [h9] at h8; cases h8
        | true =>
          rw [h9] at h8
          simp only [cond_true, decide_eq_true_eq] at h8
          have h9 := eq_of_beq h9
          exact yes (by omega)
      | false => simp only [cond_false, Option.bind_some]; exact no
end Go.UK
