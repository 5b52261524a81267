/- A part of the proof: what the functions of the program compute. -/
import Derived.Test.YtcaadpceoajapaaV15
namespace Go.UK
open Go Go.Proofs
set_option maxRecDepth 20000
set_option maxHeartbeats 2000000
set_option linter.all false

theorem rootTop (N : Nat) (hi lo : Int) (hlo : 0 ≤ lo) (hlo' : lo < 18446744073709551616) (hb : 4611686018427387904 ≤ hi) (k : Nat) :
    ∃ r, p_umbraref02_Root_L1 N hi lo (k + 64 + 1) 0 63 = some r ∧ 9223372036854775808 ≤ r := by
  rw [p_umbraref02_Root_L1, dt (show (63 : Int) ≥ 0 by decide)]
  simp only [cond_true]
  rw [shlO_ok _ (show (0 : Int) ≤ 63 by decide), show shl .u64 1 63 = 9223372036854775808 by decide]
  simp only [Option.bind_some]
  rw [show U64 (0 + 9223372036854775808) = 9223372036854775808 by decide, mul64 N (by decide) (by decide) (by decide) (by decide)]
  simp only [Option.bind_some, letO_e]
  rw [show (9223372036854775808 * 9223372036854775808 / 18446744073709551616 : Int) = 4611686018427387904 by decide, show (9223372036854775808 * 9223372036854775808 % 18446744073709551616 : Int) = 0 by decide, show I64 (63 - 1) = 62 by decide]
  have go : ∃ r, p_umbraref02_Root_L1 N hi lo (k + 64) 9223372036854775808 62 = some r ∧ 9223372036854775808 ≤ r := by
    obtain ⟨r, g1, g2, _⟩ := rootBd N hi lo hlo hlo' k 63 9223372036854775808 (by decide) (by decide) (by decide) ⟨1, by rfl⟩ (by omega)
    exact ⟨r, g1, g2⟩
  by_cases h : (4611686018427387904 : Int) < hi
  · rw [dt h]; simp only [cond_true, Option.bind_some]; exact go
  · have e : hi = 4611686018427387904 := by omega
    subst e
    rw [df h]
    simp only [cond_false, beq_self_eq_true, cond_true, Option.bind_some]
    rw [dt hlo]
    simp only [cond_true, Option.bind_some]
    exact go

theorem lengthEq (k : Nat) {v : S_api_Vec} (hv : vin v) : ∃ r, in64 r ∧ p_vec_Length (k + 65) v = some r ∧ p_umbraref03_Length (k + 65) v = some r := by
  obtain ⟨hx, hy, hz⟩ := hv
  obtain ⟨x0, x1⟩ := sq_bd hx
  obtain ⟨y0, y1⟩ := sq_bd hy
  obtain ⟨z0, z1⟩ := sq_bd hz
  have absr : ∀ {a : Int}, in64 a → (0 ≤ ab a ∧ ab a ≤ 9223372036854775808) ∧ ab a * ab a = a * a := by
    intro a ha
    obtain ⟨h1, h2⟩ := ha
    refine ⟨by unfold ab; split <;> omega, ?_⟩
    unfold ab; split
    · exact Int.neg_mul_neg a a
    · rfl
  have hr : p_umbraref03_Length (k + 65) v = (letO (decide ((v.gX * v.gX + v.gY * v.gY + v.gZ * v.gZ) / 18446744073709551616 ≥ 4611686018427387904)) fun x5 => cond x5 (some 9223372036854775807) (Option.bind (p_umbraref02_Root (k + 65) ((v.gX * v.gX + v.gY * v.gY + v.gZ * v.gZ) / 18446744073709551616) ((v.gX * v.gX + v.gY * v.gY + v.gZ * v.gZ) % 18446744073709551616)) fun r6 => some (I64 r6))) := by
    unfold p_umbraref03_Length
    rw [rsz _ hx, rsz _ hy, rsz _ hz]
    simp only [Option.bind_some]
    rw [rSquares _ (absr hx).1 (absr hy).1 (absr hz).1, (absr hx).2, (absr hy).2, (absr hz).2]
    rfl
  rw [hr]
  unfold p_vec_Length p_vec_Length_1
  obtain ⟨a, a1, a2, a3⟩ := wmulA (k + 65) hx hx
  obtain ⟨b, b1, b2, b3⟩ := wmulA (k + 65) hy hy
  obtain ⟨c, c1, c2, c3⟩ := wmulA (k + 65) hz hz
  rw [a1, b1, c1]
  simp only [Option.bind_some]
  obtain ⟨w1, w2⟩ := wAdd3 (k + 61) a2 b2 c2 (by rw [a3]; exact x0) (by rw [b3]; exact y0) (by rw [c3]; exact z0) (by rw [a3]; omega)
  rw [a3, b3, c3] at w1 w2
  generalize v.gX * v.gX + v.gY * v.gY + v.gZ * v.gZ = S at *
  simp only [letO_e]
  by_cases big : 170141183460469231731687303715884105728 ≤ S
  · rw [w2 big]
    simp only [Option.bind_some, Bool.not_false, cond_true]
    rw [dt (show S / 18446744073709551616 ≥ 4611686018427387904 by omega)]
    exact ⟨_, ⟨by decide, by decide⟩, rfl, rfl⟩
  · obtain ⟨w, e1, h0, h1, l0, l1, hw⟩ := w1 (by omega)
    have hw' : w.gHi * 18446744073709551616 + w.gLo = S := hw
    rw [e1]
    simp only [Option.bind_some, Bool.not_true, cond_false]
    have hH : S / 18446744073709551616 = w.gHi := by omega
    have hL : S % 18446744073709551616 = w.gLo := by omega
    rw [hH, hL]
    unfold p_wide_Sqrt p_umbraref02_Root
    rw [df (show ¬ w.gHi < 0 by omega), cond_false]
    have sim := rootSim (k + 65) w h0 h1 k 64 0 (by decide) (by decide) (by decide) ⟨0, by simp⟩
    rw [show (64 : Int) - ((64 : Nat) : Int) = 0 by decide, show ((64 : Nat) : Int) - 1 = 63 by decide] at sim
    rw [show k + 65 = k + 64 + 1 by omega] at sim ⊢
    rw [sim]
    by_cases mid : w.gHi ≥ 4611686018427387904
    · rw [dt mid, cond_true]
      obtain ⟨r, g1, g2⟩ := rootTop (k + 64 + 1) w.gHi w.gLo l0 l1 mid k
      rw [g1]
      simp only [Option.bind_some]
      have hm : imin r 9223372036854775807 = 9223372036854775807 := by unfold imin; rw [if_pos (by omega)]
      rw [hm]
      exact ⟨_, ⟨by decide, by decide⟩, rfl, by rw [show I64 9223372036854775807 = 9223372036854775807 by decide]⟩
    · rw [df mid, cond_false]
      obtain ⟨r, g1, g2, g3, g4⟩ := rootBd (k + 64 + 1) w.gHi w.gLo l0 l1 k 64 0 (by decide) (by decide) (by decide) ⟨0, by simp⟩ (by omega)
      rw [show ((64 : Nat) : Int) - 1 = 63 by decide] at g1
      rw [g1]
      simp only [Option.bind_some]
      have hlt : r < 9223372036854775808 := by
        apply Classical.byContradiction
        intro hn
        have : 9223372036854775808 * 9223372036854775808 ≤ r * r := Int.mul_le_mul (by omega) (by omega) (by decide) g2
        omega
      have hm : imin r 9223372036854775807 = r := by unfold imin; split <;> omega
      rw [hm]
      have hi : I64 r = r := I64_id (by omega) (by omega)
      rw [hi]
      exact ⟨r, ⟨by omega, by omega⟩, rfl, rfl⟩
end Go.UK
