/- A part of the proof: what the functions of the program compute. -/
import Derived.Test.YtcaadpceoajapaaV14
namespace Go.UK
open Go Go.Proofs
set_option maxRecDepth 20000
set_option maxHeartbeats 2000000
set_option linter.all false

theorem sq_bd {a : Int} (ha : in64 a) : 0 ≤ a * a ∧ a * a ≤ 85070591730234615865843651857942052864 := by
  obtain ⟨h1, h2⟩ := ha
  have e : a * a = ab a * ab a := by unfold ab; split; exact (Int.neg_mul_neg a a).symm; rfl
  have h3 : 0 ≤ ab a ∧ ab a ≤ 9223372036854775808 := by unfold ab; split <;> omega
  rw [e]
  exact mul_abs h3.1 h3.2 h3.1 h3.2

/-- the sum of the squares, in two words -/
theorem rSquares (N : Nat) {x y z : Int} (hx : 0 ≤ x ∧ x ≤ 9223372036854775808) (hy : 0 ≤ y ∧ y ≤ 9223372036854775808) (hz : 0 ≤ z ∧ z ≤ 9223372036854775808) :
    p_umbraref03_squares N x y z = some ((x * x + y * y + z * z) / 18446744073709551616, (x * x + y * y + z * z) % 18446744073709551616, false) := by
  unfold p_umbraref03_squares
  obtain ⟨x1, x2⟩ := mul_abs hx.1 hx.2 hx.1 hx.2
  obtain ⟨y1, y2⟩ := mul_abs hy.1 hy.2 hy.1 hy.2
  obtain ⟨z1, z2⟩ := mul_abs hz.1 hz.2 hz.1 hz.2
  rw [mul64 N hx.1 (by omega) hx.1 (by omega), mul64 N hy.1 (by omega) hy.1 (by omega), mul64 N hz.1 (by omega) hz.1 (by omega)]
  simp only [Option.bind_some]
  generalize x * x = A at *
  generalize y * y = B at *
  generalize z * z = C at *
  rw [add64 (by omega) (by omega) (by decide) (by decide)]
  simp only [Option.bind_some]
  rw [add64 (by omega) (by omega) (by omega) (by omega)]
  simp only [Option.bind_some]
  rw [add64 (by omega) (by omega) (by decide) (by decide)]
  simp only [Option.bind_some]
  rw [add64 (by omega) (by omega) (by omega) (by omega)]
  simp only [Option.bind_some, letO_e]
  congr 2
  · omega
  · congr 1
    · omega
    · refine df ?_
      rw [U64_e]
      omega
end Go.UK
