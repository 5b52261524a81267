/- A part of the proof: what the functions of the program compute. -/
import Derived.Test.YtcaadpceoajapaaV2
namespace Go.UK
open Go Go.Proofs
set_option maxRecDepth 20000
set_option linter.all false

abbrev sat (x : Int) : Int := if 9223372036854775808 ≤ x then 9223372036854775807 else x

theorem wsize (N : Nat) {a : Int} (ha : 0 ≤ a) (ha' : a < 9223372036854775808) : p_wide_size N a = some (a, false) := by
  unfold p_wide_size
  rw [show decide (a < 0) = false by simp; omega, cond_false, U64_id ha (by omega)]
theorem mul_hi {a b : Int} (ha : 0 ≤ a) (ha' : a < 9223372036854775808) (hb : 0 ≤ b) (hb' : b < 9223372036854775808) : 0 ≤ a * b ∧ a * b < 85070591730234615865843651857942052864 := by
  have h1 := Int.mul_nonneg ha hb
  have h2 : a * b ≤ 9223372036854775807 * 9223372036854775807 := Int.mul_le_mul (by omega) (by omega) hb (by omega)
  omega
theorem wmul (N : Nat) {a b : Int} (ha : 0 ≤ a) (ha' : a < 9223372036854775808) (hb : 0 ≤ b) (hb' : b < 9223372036854775808) :
    p_wide_Mul N a b = some (S_api_Wide.mk (a * b / 18446744073709551616) (a * b % 18446744073709551616)) := by
  unfold p_wide_Mul
  rw [wsize N ha ha', wsize N hb hb']
  simp only [Option.bind_some]
  rw [mul64 N ha (by omega) hb (by omega)]
  simp only [Option.bind_some, p_wide_signed, beq_self_eq_true, Bool.not_true, cond_false, letO_e]
  obtain ⟨h1, h2⟩ := mul_hi ha ha' hb hb'
  rw [I64_id (by omega) (by omega)]
theorem wshr (N : Nat) {h l : Int} (hh : 0 ≤ h) (hh' : h < 9223372036854775808) (hl : 0 ≤ l) (hl' : l < 18446744073709551616) :
    p_wide_Shr N (S_api_Wide.mk h l) 32 = some (S_api_Wide.mk (h / 4294967296) (l / 4294967296 + h * 4294967296 % 18446744073709551616)) := by
  unfold p_wide_Shr
  have e1 : imax 32 0 = 32 := by decide
  simp only [e1, letO_e]
  rw [show decide ((32 : Int) ≥ 64) = false by decide, cond_false, show ((32 : Int) == 0) = false by decide, cond_false]
  simp only [shrO_ok _ (show (0 : Int) ≤ 32 by decide), shlO_ok _ (show (0 : Int) ≤ I64 (64 - 32) by decide), Option.bind_some]
  rw [show I64 (64 - 32) = 32 by decide, shr32i, shr32u, U64_id hh (by omega), shl32, bor_comm, bor_dis 32 (by omega) (by omega) (by omega) (by omega) (by decide) ?_]
  · congr 2; omega
  · obtain ⟨H, rfl⟩ := Int.eq_ofNat_of_zero_le hh
    exact ⟨H % 4294967296, by omega⟩
theorem near (N : Nat) {h l : Int} (hh : 0 ≤ h) (hl : 0 ≤ l) (hl' : l < 18446744073709551616) : p_fix_near N (S_api_Wide.mk h l) = some (sat (h * 18446744073709551616 + l)) := by
  unfold p_fix_near p_wide_Int
  simp only [letO_e, shr63i]
  by_cases h1 : l < 9223372036854775808
  · have e : I64 l = l := I64_id (by omega) h1
    rw [e, show l / 9223372036854775808 = 0 by omega]
    by_cases h0 : h = 0
    · subst h0
      simp only [bne_self_eq_false, cond_false, Option.bind_some, cond_true]
      unfold sat
      rw [if_neg (by omega)]
      simp
    · rw [show (h != 0) = true by simp [h0]]
      simp only [cond_true, Option.bind_some, cond_false]
      rw [show decide (h < 0) = false by simp; omega, cond_false]
      unfold sat
      rw [if_pos (by omega)]
  · have e : I64 l = l - 18446744073709551616 := by rw [I64_e]; omega
    rw [e, show (l - 18446744073709551616) / 9223372036854775808 = -1 by omega, show (h != -1) = true by simp; omega]
    simp only [cond_true, Option.bind_some, cond_false]
    rw [show decide (h < 0) = false by simp; omega, cond_false]
    unfold sat
    rw [if_pos (by omega)]

theorem mulNear (N : Nat) {a b : Int} (ha : 0 ≤ a) (ha' : a < 9223372036854775808) (hb : 0 ≤ b) (hb' : b < 9223372036854775808) :
    (Option.bind (p_wide_Mul N a b) fun r7 => Option.bind (p_wide_Shr N r7 32) fun r8 => Option.bind (p_fix_near N r8) fun r9 => some r9) = some (sat (a * b / 4294967296)) := by
  obtain ⟨h1, h2⟩ := mul_hi ha ha' hb hb'
  rw [wmul N ha ha' hb hb']
  simp only [Option.bind_some]
  generalize a * b = p at *
  rw [wshr N (by omega) (by omega) (by omega) (by omega)]
  simp only [Option.bind_some]
  rw [near N (by omega) (by omega) (by omega)]
  simp only [Option.bind_some]
  congr 2
  omega

theorem idx2_0 (a b : Int) : idx [a, b] 0 = some a := rfl
theorem idx2_1 (a b : Int) : idx [a, b] 1 = some b := rfl

theorem fixMul (k : Nat) {a b : Int} (ha : 0 ≤ a) (ha' : a < 9223372036854775808) (hb : 0 ≤ b) (hb' : b < 9223372036854775808) : p_fix_Mul (k + 3) [a, b] = some (sat (a * b / 4294967296)) := by
  unfold p_fix_Mul
  unfold p_fix_Mul_L1
  simp only [letO_e, List.length_cons, List.length_nil]
  rw [show decide ((0 : Int) < ((0 + 1 + 1 : Nat) : Int)) = true by decide, cond_true, idx2_0]
  simp only [Option.bind_some, beq_self_eq_true, cond_true]
  rw [show I64 (0 + 1) = 1 by decide]
  unfold p_fix_Mul_L1
  simp only [letO_e, List.length_cons, List.length_nil]
  rw [show decide ((1 : Int) < ((0 + 1 + 1 : Nat) : Int)) = true by decide, cond_true, idx2_1]
  simp only [Option.bind_some]
  rw [show ((1 : Int) == 0) = false by decide, cond_false, mulNear _ ha ha' hb hb']
  simp only [Option.bind_some]
  rw [show I64 (1 + 1) = 2 by decide]
  unfold p_fix_Mul_L1
  simp only [letO_e, List.length_cons, List.length_nil]
  rw [show decide ((2 : Int) < ((0 + 1 + 1 : Nat) : Int)) = false by decide, cond_false]
  rfl

theorem fixAdd (k : Nat) {a b : Int} (ha : 0 < a) (ha' : a < 9223372036854775808) (hb : -a ≤ b) (hb' : b < 9223372036854775808) : p_fix_Add (k + 3) [a, b] = some (sat (a + b)) := by
  unfold p_fix_Add
  unfold p_fix_Add_L1
  simp only [letO_e, List.length_cons, List.length_nil]
  rw [show decide ((0 : Int) < ((0 + 1 + 1 : Nat) : Int)) = true by decide, cond_true, idx2_0]
  simp only [Option.bind_some, letO_e]
  rw [show decide ((0 : Int) > 0) = false by decide, show I64 (0 + 1) = 1 by decide]
  simp only [cond_false, Option.bind_some]
  rw [show I64 (0 + a) = a by rw [Int.zero_add]; exact I64_id (by omega) ha']
  unfold p_fix_Add_L1
  simp only [letO_e, List.length_cons, List.length_nil]
  rw [show decide ((1 : Int) < ((0 + 1 + 1 : Nat) : Int)) = true by decide, cond_true, idx2_1]
  simp only [Option.bind_some, letO_e]
  rw [show decide (a > 0) = true by simpa using ha, show decide (a < 0) = false by simp; omega, show I64 (1 + 1) = 2 by decide]
  simp only [cond_false, cond_true]
  unfold p_fix_Add_L1
  simp only [letO_e, List.length_cons, List.length_nil]
  rw [show decide ((2 : Int) < ((0 + 1 + 1 : Nat) : Int)) = false by decide]
  simp only [cond_false]
  by_cases hb0 : b > 0
  · rw [show decide (b > 0) = true by simpa using hb0]
    simp only [cond_true]
    by_cases h : 9223372036854775808 ≤ a + b
    · rw [show decide (I64 (a + b) < 0) = true by rw [I64_e]; simp; omega]
      unfold sat; rw [if_pos h]; rfl
    · rw [I64_id (by omega) (by omega), show decide (a + b < 0) = false by simp; omega]
      unfold sat; rw [if_neg h]; rfl
  · rw [show decide (b > 0) = false by simpa using hb0]
    simp only [cond_false, Option.bind_some]
    rw [I64_id (by omega) (by omega)]
    unfold sat; rw [if_neg (by omega)]

theorem divs (k : Nat) {a y : Int} (ha : 0 < a) (ha' : a < 9223372036854775808) (hy : 0 < y) (hy' : y < 9223372036854775808) (hlt : a / 4294967296 < y) :
    p_fix_Div (k + 3) a y = some (sat (a * 4294967296 / y)) := by
  obtain ⟨r, hq⟩ := div64q k (h := a / 4294967296) (l := a * 4294967296 % 18446744073709551616) hy (by omega) (by omega) hlt (by omega) (by omega)
  rw [show a / 4294967296 * 18446744073709551616 + a * 4294967296 % 18446744073709551616 = a * 4294967296 by omega] at hq
  have hq0 : 0 ≤ a * 4294967296 / y := Int.ediv_nonneg (by omega) (by omega)
  have hq1 : a * 4294967296 / y < 18446744073709551616 := Int.ediv_lt_of_lt_mul hy (by omega)
  generalize a * 4294967296 / y = q at *
  · unfold p_fix_Div
    rw [show (y == 0) = false by simp; omega, cond_false, wmul _ (by omega) ha' (by omega) (by omega)]
    simp only [Option.bind_some]
    rw [show a * 4294967296 / 18446744073709551616 = a / 4294967296 by omega]
    unfold p_wide_Div
    rw [show (y == 0) = false by simp; omega, cond_false]
    simp only []
    rw [show decide (a / 4294967296 < 0) = false by simp; omega]
    simp only [cond_false, Option.bind_some]
    rw [wsize _ (by omega) hy', U64_id (x := a / 4294967296) (by omega) (by omega)]
    simp only [Option.bind_some]
    rw [div64_0 _ hy (by omega) (by omega)]
    simp only [Option.bind_some]
    rw [show a / 4294967296 % y = a / 4294967296 from Int.emod_eq_of_lt (by omega) hlt, show a / 4294967296 / y = 0 from Int.ediv_eq_zero_of_lt (by omega) hlt, hq]
    simp only [Option.bind_some, letO_e, beq_self_eq_true, Bool.not_true, cond_false, p_wide_signed, cond_true]
    rw [show I64 0 = 0 by decide, show decide ((0 : Int) < 0) = false by decide]
    simp only [beq_self_eq_true, cond_true, Bool.not_true, cond_false, Option.bind_some]
    rw [near _ (by omega) hq0 hq1]
    simp only [Option.bind_some]
    congr 2
    omega
theorem sat_rng {x : Int} (h : 0 ≤ x) : 0 ≤ sat x ∧ sat x < 9223372036854775808 := by unfold sat; split <;> omega

end Go.UK
