/- A part of the proof: what the functions of the program compute. -/
import Derived.Test.YtcaadpceoajapaaV6
namespace Go.UK
open Go Go.Proofs
set_option maxRecDepth 20000
set_option maxHeartbeats 2000000
set_option linter.all false

theorem bor_hi {x y : Int} (h0 : 0 ≤ x) (h1 : x < 4294967296) (h2 : 0 ≤ y) (h3 : y < 4294967296) : bor .u64 (x * 4294967296) y = x * 4294967296 + y := by
  obtain ⟨X, rfl⟩ := Int.eq_ofNat_of_zero_le h0
  refine bor_dis 32 (by omega) (by omega) h2 (by exact h3) (by decide) ?_
  exact ⟨X, by omega⟩
/-- ref02's Times is the same. -/
theorem rTimes (N : Nat) {a b : Int} (ha : in64 a) (hb : in64 b) : p_umbraref02_Times N a b = some (S64 (a * b / 4294967296)) := by
  unfold p_umbraref02_Times
  rw [rsz N ha, rsz N hb]
  obtain ⟨a1, a2⟩ := ha
  obtain ⟨b1, b2⟩ := hb
  simp only [Option.bind_some]
  have key : ∀ (x y : Int) (m : Bool), 0 ≤ x → x ≤ 9223372036854775808 → 0 ≤ y → y ≤ 9223372036854775808 → (cond m (-(x * y)) (x * y) = a * b) →
      (Option.bind (p_math_bits_Mul64 N x y) fun r3 =>
  letO (bor .u64 (shl .u64 r3.1 32) (shr .u64 r3.2 32)) fun x4 =>
  letO (decide (r3.1 ≥ 4294967296)) fun x5 =>
  letO m fun x6 =>
  Option.bind (letO (band .u64 r3.2 4294967295) fun x8 =>
  letO (cond x6 (decide (x8 > 0)) false) fun x9 =>
  cond x9 (
    letO (cond x5 true ((U64 (x4 + 1)) == 0)) fun x11 =>
    some ((U64 (x4 + 1), x11))) (
    some ((x4, x5)))) fun p7 =>
  Option.bind (p_umbraref02_Near N p7.1 x6 p7.2) fun r12 =>
  some r12) = some (S64 (a * b / 4294967296)) := by
    intro x y m hx hx' hy hy' he
    obtain ⟨m1, m2⟩ := mul_abs hx hx' hy hy'
    rw [mul64 N hx (by omega) hy (by omega)]
    simp only [Option.bind_some, letO_e]
    rw [← he]
    generalize x * y = Q at *
    have q4 : bor .u64 (shl .u64 (Q / 18446744073709551616) 32) (shr .u64 (Q % 18446744073709551616) 32) = (Q / 18446744073709551616) % 4294967296 * 4294967296 + Q % 18446744073709551616 / 4294967296 := by
      rw [shl32, shr32u]
      have e : Q / 18446744073709551616 * 4294967296 % 18446744073709551616 = (Q / 18446744073709551616) % 4294967296 * 4294967296 := by omega
      rw [e]
      have h0 : 0 ≤ Q / 18446744073709551616 % 4294967296 := by omega
      have h1 : Q / 18446744073709551616 % 4294967296 < 4294967296 := by omega
      have h2 : 0 ≤ Q % 18446744073709551616 / 4294967296 := by omega
      have h3 : Q % 18446744073709551616 / 4294967296 < 4294967296 := by omega
      exact bor_hi h0 h1 h2 h3
    rw [q4, band32 (by omega) (by omega)]
    generalize hH : Q / 18446744073709551616 = Hh at *
    generalize hL : Q % 18446744073709551616 = L at *
    have hQ : Q = Hh * 18446744073709551616 + L := by omega
    have hQ32 : Q / 4294967296 = Hh * 4294967296 + L / 4294967296 := by omega
    cases m with
    | false =>
      simp only [cond_false, Option.bind_some]
      rw [rnear N _ _ (by omega) (by omega)]
      simp only [Option.bind_some, cond_false]
      congr 1
      by_cases ho : Hh ≥ 4294967296
      · rw [dt ho, cond_true, hQ32]; unfold S64; rw [if_neg (by omega), if_pos (by omega)]
      · rw [df ho, cond_false, hQ32]; congr 1; omega
    | true =>
      simp only [cond_true]
      by_cases hf : L % 4294967296 > 0
      · rw [dt hf]
        simp only [cond_true, Option.bind_some]
        rw [rnear N _ _ (U64_lo _) (U64_hi _)]
        simp only [Option.bind_some, cond_true]
        congr 1
        by_cases ho : Hh ≥ 4294967296
        · rw [dt ho]; simp only [cond_true]; unfold S64; rw [if_pos (by omega)]
        · rw [df ho]
          simp only [cond_false]
          by_cases hz : Hh % 4294967296 * 4294967296 + L / 4294967296 + 1 = 18446744073709551616
          · rw [hz, show U64 18446744073709551616 = 0 by decide]
            simp only [beq_self_eq_true, cond_true]
            unfold S64; rw [if_pos (by omega)]
          · have hu : U64 (Hh % 4294967296 * 4294967296 + L / 4294967296 + 1) = Hh % 4294967296 * 4294967296 + L / 4294967296 + 1 := U64_id (by omega) (by omega)
            rw [hu, show (Hh % 4294967296 * 4294967296 + L / 4294967296 + 1 == 0) = false by simp; omega, cond_false]
            congr 1; omega
      · rw [df hf]
        simp only [cond_false, Option.bind_some]
        rw [rnear N _ _ (by omega) (by omega)]
        simp only [Option.bind_some, cond_true]
        congr 1
        by_cases ho : Hh ≥ 4294967296
        · rw [dt ho, cond_true]
          unfold S64
          by_cases h9 : -Q / 4294967296 < -9223372036854775808
          · rw [if_pos h9]
          · omega
        · rw [df ho, cond_false]; congr 1; omega
  by_cases s1 : a < 0 <;> by_cases s2 : b < 0
  · rw [if_pos s1, if_pos s2, dt s1, dt s2]
    exact key (-a) (-b) _ (by omega) (by omega) (by omega) (by omega) (by show -a * -b = _; rw [Int.neg_mul_neg])
  · rw [if_pos s1, if_neg s2, dt s1, df s2]
    exact key (-a) b _ (by omega) (by omega) (by omega) (by omega) (by show -(-a * b) = _; rw [Int.neg_mul, Int.neg_neg])
  · rw [if_neg s1, if_pos s2, df s1, dt s2]
    exact key a (-b) _ (by omega) (by omega) (by omega) (by omega) (by show -(a * -b) = _; rw [Int.mul_neg, Int.neg_neg])
  · rw [if_neg s1, if_neg s2, df s1, df s2]
    exact key a b _ (by omega) (by omega) (by omega) (by omega) rfl
end Go.UK
