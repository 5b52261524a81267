/- A part of the proof: what the functions of the program compute. -/
import Derived.Test.YtcaadpceoajapaaV17
namespace Go.UK
open Go Go.Proofs
set_option maxRecDepth 20000
set_option maxHeartbeats 2000000
set_option linter.all false

theorem r3Length (k : Nat) {v : S_api_Vec} (hv : vin v) {r : Int} (h : p_umbraref03_Length (k + 65) v = some r) : (v.gX * v.gX + v.gY * v.gY + v.gZ * v.gZ = 0 → r = 0) ∧ (1 ≤ v.gX * v.gX + v.gY * v.gY + v.gZ * v.gZ → r ≠ 0) := by
  obtain ⟨hx, hy, hz⟩ := hv
  obtain ⟨x0, x1⟩ := sq_bd hx
  obtain ⟨y0, y1⟩ := sq_bd hy
  obtain ⟨z0, z1⟩ := sq_bd hz
  have absr : ∀ {a : Int}, in64 a → (0 ≤ ab a ∧ ab a ≤ 9223372036854775808) ∧ ab a * ab a = a * a := by
    intro a ha
    obtain ⟨h1, h2⟩ := ha
    refine ⟨by unfold ab; split <;> omega, ?_⟩
    unfold ab; split
    · exact Int.neg_mul_neg a a
    · rfl
  unfold p_umbraref03_Length at h
  rw [rsz _ hx, rsz _ hy, rsz _ hz] at h
  simp only [Option.bind_some] at h
  rw [rSquares _ (absr hx).1 (absr hy).1 (absr hz).1, (absr hx).2, (absr hy).2, (absr hz).2] at h
  have hS0 : 0 ≤ v.gX * v.gX + v.gY * v.gY + v.gZ * v.gZ := by omega
  generalize v.gX * v.gX + v.gY * v.gY + v.gZ * v.gZ = S at *
  simp only [Option.bind_some, letO_e, cond_false] at h
  by_cases big : S / 18446744073709551616 ≥ 4611686018427387904
  · rw [dt big, cond_true] at h
    cases h
    exact ⟨fun e => by omega, fun _ => by decide⟩
  · rw [df big, cond_false] at h
    unfold p_umbraref02_Root at h
    obtain ⟨q, g1, g2, g3, g4⟩ := rootBd (k + 65) (S / 18446744073709551616) (S % 18446744073709551616) (by omega) (by omega) k 64 0 (by decide) (by decide) (by decide) ⟨0, by simp⟩ (by omega)
    rw [show ((64 : Nat) : Int) - 1 = 63 by decide, show k + 64 + 1 = k + 65 by omega] at g1
    rw [g1] at h
    simp only [Option.bind_some] at h
    cases h
    have hlt : q < 9223372036854775808 := by
      apply Classical.byContradiction
      intro hn
      have : 9223372036854775808 * 9223372036854775808 ≤ q * q := Int.mul_le_mul (by omega) (by omega) (by decide) g2
      omega
    rw [I64_id (by omega) hlt]
    refine ⟨fun e => ?_, fun e => ?_⟩
    · subst e
      apply Classical.byContradiction
      intro hn
      have : 1 * 1 ≤ q * q := Int.mul_le_mul (by omega) (by omega) (by decide) g2
      omega
    · obtain ⟨q', f1, f2⟩ := rootPos (k + 65) (S / 18446744073709551616) (S % 18446744073709551616) (by omega) (by omega) (by omega) (by omega) k 63 (by decide)
      rw [show k + 63 + 1 + 1 = k + 65 by omega, show ((63 : Nat) : Int) = 63 by rfl, g1] at f1
      cases f1
      omega
end Go.UK
