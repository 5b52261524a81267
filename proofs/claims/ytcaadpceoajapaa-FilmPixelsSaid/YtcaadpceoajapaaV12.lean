/- A part of the proof: what the functions of the program compute. -/
import Derived.Test.YtcaadpceoajapaaV11
namespace Go.UK
open Go Go.Proofs
set_option maxRecDepth 20000
set_option maxHeartbeats 2000000
set_option linter.all false

theorem shl1 (j : Nat) (hj : j < 64) : shl .u64 1 (j : Int) = (2 : Int) ^ j := by
  rw [shl_e 1 j j rfl (by omega), Int.one_mul]
  refine Int.emod_eq_of_lt (Int.le_of_lt (Int.pow_pos (by decide))) ?_
  have h8 : (2 : Nat) ^ j < 18446744073709551616 := Nat.lt_of_lt_of_eq (Nat.pow_lt_pow_right (by decide) hj) (by rfl : 2 ^ 64 = 18446744073709551616)
  have h9 : ((2 ^ j : Nat) : Int) < 18446744073709551616 := by omega
  rw [Int.natCast_pow] at h9
  exact h9

/-- the roots are found digit by digit alike -/
theorem rootSim (N : Nat) (w : S_api_Wide) (hh : 0 ≤ w.gHi) (hh' : w.gHi ≤ 9223372036854775807) (k : Nat) : ∀ (j : Nat) (s : Int), j ≤ 64 → 0 ≤ s → s < 18446744073709551616 → (∃ X : Nat, s = (2 : Int) ^ j * X) →
    p_wide_Sqrt_L1 N w (k + j + 1) s (64 - (j : Int)) = p_umbraref02_Root_L1 N w.gHi w.gLo (k + j + 1) s ((j : Int) - 1)
  | 0, s, _, _, _, _ => by
    rw [p_wide_Sqrt_L1, p_umbraref02_Root_L1, df (show ¬ (64 - ((0 : Nat) : Int) < 64) by decide), df (show ¬ (((0 : Nat) : Int) - 1 ≥ 0) by decide)]
    rfl
  | j + 1, s, hj, h0, h1, ⟨X, hX⟩ => by
    rw [p_wide_Sqrt_L1, p_umbraref02_Root_L1, dt (show 64 - ((j + 1 : Nat) : Int) < 64 by omega), dt (show ((j + 1 : Nat) : Int) - 1 ≥ 0 by omega)]
    simp only [cond_true]
    have e1 : I64 (63 - (64 - ((j + 1 : Nat) : Int))) = (j : Int) := by rw [I64_id (by omega) (by omega)]; omega
    have e2 : ((j + 1 : Nat) : Int) - 1 = (j : Int) := by omega
    rw [e1, e2, shlO_ok _ (show (0 : Int) ≤ (j : Int) by omega), shl1 j (by omega)]
    simp only [Option.bind_some]
    have hp : (0 : Int) < 2 ^ j := Int.pow_pos (by decide)
    have hp2 : (2 : Int) ^ (j + 1) = 2 ^ j * 2 := Int.pow_succ ..
    have h64 : (18446744073709551616 : Int) = 2 ^ j * 2 ^ (64 - j) := by rw [← Int.pow_add, show j + (64 - j) = 64 by omega]; rfl
    have hlt : s + 2 ^ j < 18446744073709551616 := by
      have e64 : (18446744073709551616 : Int) = 2 ^ (j + 1) * 2 ^ (63 - j) := by rw [← Int.pow_add, show j + 1 + (63 - j) = 64 by omega]; rfl
      have hx1 : (X : Int) < 2 ^ (63 - j) := by
        rw [hX, e64] at h1
        exact Int.lt_of_mul_lt_mul_left h1 (Int.le_of_lt (Int.pow_pos (by decide)))
      have hx2 : (2 : Int) ^ (j + 1) * X + 2 ^ (j + 1) ≤ 2 ^ (j + 1) * 2 ^ (63 - j) := by
        have : (2 : Int) ^ (j + 1) * (X + 1) ≤ 2 ^ (j + 1) * 2 ^ (63 - j) := Int.mul_le_mul_of_nonneg_left (by omega) (Int.le_of_lt (Int.pow_pos (by decide)))
        rwa [Int.mul_add, Int.mul_one] at this
      rw [← hX, ← e64] at hx2
      omega
    have hbor : bor .u64 s (2 ^ j) = s + 2 ^ j := by
      refine bor_dis (j + 1) h0 h1 (Int.le_of_lt hp) ?_ (by omega) ?_
      · have : (2 : Nat) ^ j < 2 ^ (j + 1) := Nat.pow_lt_pow_right (by decide) (by omega)
        exact_mod_cast this
      · refine ⟨X, ?_⟩
        rw [hX]
        have : ((2 : Int) ^ (j + 1) * (X : Int)) = ((2 ^ (j + 1) * X : Nat) : Int) := by simp
        rw [this]; rfl
    have hu : U64 (s + 2 ^ j) = s + 2 ^ j := U64_id (by omega) hlt
    rw [hbor, hu]
    have hs0 : 0 ≤ s + 2 ^ j := by omega
    rw [mul64 N hs0 hlt hs0 hlt]
    simp only [Option.bind_some, letO_e]
    have hU : U64 w.gHi = w.gHi := U64_id hh (by omega)
    rw [hU]
    have hi1 : I64 (64 - ((j + 1 : Nat) : Int) + 1) = 64 - (j : Int) := by rw [I64_id (by omega) (by omega)]; omega
    have hi2 : I64 ((j : Int) - 1) = (j : Int) - 1 := I64_id (by omega) (by omega)
    rw [hi1, hi2]
    have r1 := rootSim N w hh hh' k j (s + 2 ^ j) (by omega) hs0 hlt ⟨2 * X + 1, by rw [hX, hp2]; push_cast; grind⟩
    have r2 := rootSim N w hh hh' k j s (by omega) h0 h1 ⟨2 * X, by rw [hX, hp2]; push_cast; grind⟩
    have ek : k + (j + 1) = k + j + 1 := by omega
    rw [ek]
    cases h7 : decide ((s + 2 ^ j) * (s + 2 ^ j) / 18446744073709551616 < w.gHi) with
    | true => simp only [cond_true, Option.bind_some]; exact r1
    | false =>
      simp only [cond_false, Option.bind_some]
      cases h8 : (cond ((s + 2 ^ j) * (s + 2 ^ j) / 18446744073709551616 == w.gHi) (decide ((s + 2 ^ j) * (s + 2 ^ j) % 18446744073709551616 ≤ w.gLo)) false) with
      | true => simp only [cond_true, Option.bind_some]; exact r1
      | false => simp only [cond_false, Option.bind_some]; exact r2
end Go.UK
