/- A part of the proof: what the functions of the program compute. -/
import Derived.Test.YtcaadpceoajapaaG3
import Derived.Test.YtcaadpceoajapaaW1
namespace Go.UK
open Go Go.Proofs
set_option maxRecDepth 20000
set_option linter.all false

theorem mul_bd {a b : Int} (ha : 0 ≤ a) (ha' : a < 4294967296) (hb : 0 ≤ b) (hb' : b < 4294967296) : 0 ≤ a * b ∧ a * b ≤ 18446744065119617025 := by
  have h1 := Int.mul_nonneg ha hb
  have h2 : a * b ≤ 4294967295 * 4294967295 := Int.mul_le_mul (by omega) (by omega) hb (by omega)
  omega

theorem mul64 (N : Nat) {a b : Int} (ha : 0 ≤ a) (ha' : a < 18446744073709551616) (hb : 0 ≤ b) (hb' : b < 18446744073709551616) :
    p_math_bits_Mul64 N a b = some (a * b / 18446744073709551616, a * b % 18446744073709551616) := by
  unfold p_math_bits_Mul64
  simp only [letO_e, band32 ha ha', band32 hb hb', shr32u, band32 (U64_lo _) (U64_hi _)]
  simp only [U64_e]
  generalize hA1 : a / 4294967296 = A1
  generalize hA0 : a % 4294967296 = A0
  generalize hB1 : b / 4294967296 = B1
  generalize hB0 : b % 4294967296 = B0
  have ea : a = A1 * 4294967296 + A0 := by omega
  have eb : b = B1 * 4294967296 + B0 := by omega
  have hp : a * b = (A1 * B1) * 18446744073709551616 + (A1 * B0 + A0 * B1) * 4294967296 + A0 * B0 := by
    rw [ea, eb]; grind
  rw [hp]
  obtain ⟨x1, y1⟩ := mul_bd (a := A1) (b := B1) (by omega) (by omega) (by omega) (by omega)
  obtain ⟨x2, y2⟩ := mul_bd (a := A1) (b := B0) (by omega) (by omega) (by omega) (by omega)
  obtain ⟨x3, y3⟩ := mul_bd (a := A0) (b := B1) (by omega) (by omega) (by omega) (by omega)
  obtain ⟨x4, y4⟩ := mul_bd (a := A0) (b := B0) (by omega) (by omega) (by omega) (by omega)
  clear hp ea eb
  generalize A1 * B1 = p at *
  generalize A1 * B0 = q at *
  generalize A0 * B1 = r at *
  generalize A0 * B0 = s at *
  congr 2
  omega

/-! ### Len64 -/
theorem str_0_get (i : Nat) (h : i < 256) : ∃ b : UInt8, str_0.data.toList[i]? = some b ∧ b.toNat ≤ 8 ∧ i < 2 ^ b.toNat ∧ (0 < i → 1 ≤ b.toNat ∧ 2 ^ (b.toNat - 1) ≤ i) := by
  have key : ∀ i : Fin 256, (match str_0.data.toList[i.val]? with | some b => decide (b.toNat ≤ 8) && decide (i.val < 2 ^ b.toNat) && (decide (i.val = 0) || (decide (1 ≤ b.toNat) && decide (2 ^ (b.toNat - 1) ≤ i.val))) | none => false) = true := by decide
  have := key ⟨i, h⟩
  simp only at this
  split at this
  · rename_i b hb
    simp only [Bool.and_eq_true, Bool.or_eq_true, decide_eq_true_eq] at this
    exact ⟨b, hb, this.1.1, this.1.2, fun hi => by rcases this.2 with h | h; omega; exact h⟩
  · cases this

theorem len64 (N : Nat) {a : Int} (ha : 0 < a) (ha' : a < 18446744073709551616) :
    ∃ n : Nat, p_math_bits_Len64 N a = some (n : Int) ∧ 1 ≤ n ∧ n ≤ 64 ∧ (2 : Int) ^ (n - 1) ≤ a ∧ a < (2 : Int) ^ n := by
  obtain ⟨A, rfl⟩ := Int.eq_ofNat_of_zero_le (Int.le_of_lt ha)
  unfold p_math_bits_Len64
  simp only [letO_e, shr32u, shr16u, shr8u]
  -- the three steps
  obtain ⟨y1, n1, e1, h1, h1'⟩ : ∃ (y n : Nat), (cond (decide ((A : Int) ≥ 4294967296)) (some ((A : Int) / 4294967296, (32 : Int))) (some ((A : Int), 0))) = some ((y : Int), (n : Int)) ∧ y < 4294967296 ∧ (A / 2 ^ n = y ∧ 0 < y ∧ (n = 0 ∨ n = 32)) := by
    by_cases hc : (A : Int) ≥ 4294967296
    · exact ⟨A / 4294967296, 32, by simp [hc], by omega, rfl, by omega, .inr rfl⟩
    · exact ⟨A, 0, by simp [hc], by omega, by simp, by omega, .inl rfl⟩
  rw [e1]
  simp only [Option.bind_some]
  obtain ⟨y2, n2, e2, h2, h2'⟩ : ∃ (y n : Nat), (cond (decide ((y1 : Int) ≥ 65536)) (some ((y1 : Int) / 65536, I64 ((n1 : Int) + 16))) (some ((y1 : Int), (n1 : Int)))) = some ((y : Int), (n : Int)) ∧ y < 65536 ∧ (A / 2 ^ n = y ∧ 0 < y ∧ n ≤ 48) := by
    by_cases hc : (y1 : Int) ≥ 65536
    · refine ⟨y1 / 65536, n1 + 16, ?_, by omega, ?_, by omega, by omega⟩
      · simp only [hc, decide_true, cond_true]
        rw [I64_id (by omega) (by omega)]
        rfl
      · rw [Nat.pow_add, ← Nat.div_div_eq_div_mul, h1'.1]
    · exact ⟨y1, n1, by simp [hc], by omega, h1'.1, h1'.2.1, by omega⟩
  rw [e2]
  simp only [Option.bind_some]
  obtain ⟨y3, n3, e3, h3, h3'⟩ : ∃ (y n : Nat), (cond (decide ((y2 : Int) ≥ 256)) (some ((y2 : Int) / 256, I64 ((n2 : Int) + 8))) (some ((y2 : Int), (n2 : Int)))) = some ((y : Int), (n : Int)) ∧ y < 256 ∧ (A / 2 ^ n = y ∧ 0 < y ∧ n ≤ 56) := by
    by_cases hc : (y2 : Int) ≥ 256
    · refine ⟨y2 / 256, n2 + 8, ?_, by omega, ?_, by omega, by omega⟩
      · simp only [hc, decide_true, cond_true]
        rw [I64_id (by omega) (by omega)]
        rfl
      · rw [Nat.pow_add, ← Nat.div_div_eq_div_mul, h2'.1]
    · exact ⟨y2, n2, by simp [hc], by omega, h2'.1, h2'.2.1, by omega⟩
  rw [e3]
  simp only [Option.bind_some]
  obtain ⟨b, g1, g2, g3, g4⟩ := str_0_get y3 h3
  obtain ⟨g5, g6⟩ := g4 h3'.2.1
  have hidx : idx str_0.data.toList (U8 (y3 : Int)) = some b := by
    have : U8 (y3 : Int) = (y3 : Int) := by
      rw [show U8 (y3 : Int) = (y3 : Int) % 256 from IntKind.wrap_u8 _]
      omega
    rw [this]
    unfold idx
    simp [g1]
  rw [hidx]
  simp only [Option.bind_some]
  refine ⟨n3 + b.toNat, ?_, by omega, by omega, ?_, ?_⟩
  · rw [I64_id (x := (b.toNat : Int)) (by omega) (by omega), I64_id (by omega) (by omega)]
    rfl
  · have e : n3 + b.toNat - 1 = n3 + (b.toNat - 1) := by omega
    have : 2 ^ (n3 + b.toNat - 1) ≤ A := by
      rw [e, Nat.pow_add]
      calc 2 ^ n3 * 2 ^ (b.toNat - 1) ≤ 2 ^ n3 * y3 := Nat.mul_le_mul_left _ g6
        _ = 2 ^ n3 * (A / 2 ^ n3) := by rw [h3'.1]
        _ ≤ A := Nat.mul_div_le A _
    exact_mod_cast this
  · have : A < 2 ^ (n3 + b.toNat) := by
      rw [Nat.pow_add]
      have := Nat.lt_mul_div_succ A (Nat.two_pow_pos n3)
      rw [h3'.1] at this
      calc A < 2 ^ n3 * (y3 + 1) := this
        _ ≤ 2 ^ n3 * 2 ^ b.toNat := Nat.mul_le_mul_left _ (by omega)
    exact_mod_cast this
end Go.UK
