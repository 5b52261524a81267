/- A part of the proof: what the functions of the program compute. -/
import Derived.Test.YtcaadpceoajapaaV18
namespace Go.UK
open Go Go.Proofs
set_option maxRecDepth 20000
set_option maxHeartbeats 2000000
set_option linter.all false

theorem unitEq (k : Nat) {v : S_api_Vec} (hv : vin v) : ∃ u, vin u ∧ p_vec_Unit (k + 65) v = some u ∧ p_umbraref03_Unit (k + 65) v = some u := by
  obtain ⟨r, hr, e1, e2⟩ := lengthEq k hv
  obtain ⟨z1, z2⟩ := r3Length k hv e2
  obtain ⟨x0, _⟩ := sq_bd hv.1
  obtain ⟨y0, _⟩ := sq_bd hv.2.1
  obtain ⟨w0, _⟩ := sq_bd hv.2.2
  unfold p_vec_Unit p_umbraref03_Unit
  rw [e2]
  simp only [Option.bind_some]
  by_cases hz : v.gX = 0 ∧ v.gY = 0 ∧ v.gZ = 0
  · obtain ⟨h1, h2, h3⟩ := hz
    have : r = 0 := z1 (by rw [h1, h2, h3]; decide)
    subst this
    have he : S_api_Vec.eq v (S_api_Vec.mk 0 0 0) = true := by unfold S_api_Vec.eq; simp [h1, h2, h3]
    rw [he]
    exact ⟨v, hv, rfl, rfl⟩
  · have he : S_api_Vec.eq v (S_api_Vec.mk 0 0 0) = false := by
      unfold S_api_Vec.eq
      cases h1 : (v.gX == 0) <;> cases h2 : (v.gY == 0) <;> cases h3 : (v.gZ == 0) <;> simp_all
    have hpos : 1 ≤ v.gX * v.gX + v.gY * v.gY + v.gZ * v.gZ := by
      apply Classical.byContradiction
      intro hn
      have a1 : v.gX * v.gX = 0 := by omega
      have a2 : v.gY * v.gY = 0 := by omega
      have a3 : v.gZ * v.gZ = 0 := by omega
      exact hz ⟨by rcases Int.mul_eq_zero.1 a1 with h | h <;> exact h, by rcases Int.mul_eq_zero.1 a2 with h | h <;> exact h, by rcases Int.mul_eq_zero.1 a3 with h | h <;> exact h⟩
    have hr0 := z2 hpos
    rw [he, e1, show (r == 0) = false by simpa using hr0]
    simp only [cond_false, Option.bind_some]
    unfold p_vec_each_v2
    rw [show k + 65 = (k + 62) + 3 by omega]
    obtain ⟨a, q1, f1, g1⟩ := divEq (k + 62) hv.1 hr hr0
    obtain ⟨b, q2, f2, g2⟩ := divEq (k + 62) hv.2.1 hr hr0
    obtain ⟨c, q3, f3, g3⟩ := divEq (k + 62) hv.2.2 hr hr0
    rw [f1, f2, f3, g1, g2, g3]
    exact ⟨⟨a, b, c⟩, ⟨q1, q2, q3⟩, rfl, rfl⟩
end Go.UK
