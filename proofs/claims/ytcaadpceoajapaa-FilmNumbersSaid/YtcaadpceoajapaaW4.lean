/- A part of the proof: what the functions of the program compute. -/
import Derived.Test.YtcaadpceoajapaaW3
namespace Go.UK
open Go Go.Proofs
set_option maxRecDepth 20000
set_option linter.all false

abbrev sat (x : Int) : Int := if 9223372036854775808 ≤ x then 9223372036854775807 else x

theorem wsize (N : Nat) {a : Int} (ha : 0 ≤ a) (ha' : a < 9223372036854775808) : p_wide_size N a = some (a, false) := by
  unfold p_wide_size
  rw [show decide (a < 0) = false by simp; omega, cond_false, U64_id ha (by omega)]
theorem rsize (N : Nat) {a : Int} (ha : 0 ≤ a) (ha' : a < 9223372036854775808) : p_umbraref02_Size N a = some a := by
  unfold p_umbraref02_Size
  rw [show decide (a < 0) = false by simp; omega, cond_false, U64_id ha (by omega)]
theorem mul_hi {a b : Int} (ha : 0 ≤ a) (ha' : a < 9223372036854775808) (hb : 0 ≤ b) (hb' : b < 9223372036854775808) : 0 ≤ a * b ∧ a * b < 85070591730234615865843651857942052864 := by
  have h1 := Int.mul_nonneg ha hb
  have h2 : a * b ≤ 9223372036854775807 * 9223372036854775807 := Int.mul_le_mul (by omega) (by omega) hb (by omega)
  omega
theorem wmul (N : Nat) {a b : Int} (ha : 0 ≤ a) (ha' : a < 9223372036854775808) (hb : 0 ≤ b) (hb' : b < 9223372036854775808) :
    p_wide_Mul N a b = some (S_api_Wide.mk (a * b / 18446744073709551616) (a * b % 18446744073709551616)) := by
  unfold p_wide_Mul
  rw [wsize N ha ha', wsize N hb hb']
  simp only [Option.bind_some]
  rw [mul64 N ha (by omega) hb (by omega)]
  simp only [Option.bind_some, p_wide_signed, beq_self_eq_true, Bool.not_true, cond_false, letO_e]
  obtain ⟨h1, h2⟩ := mul_hi ha ha' hb hb'
  rw [I64_id (by omega) (by omega)]
theorem wshr (N : Nat) {h l : Int} (hh : 0 ≤ h) (hh' : h < 9223372036854775808) (hl : 0 ≤ l) (hl' : l < 18446744073709551616) :
    p_wide_Shr N (S_api_Wide.mk h l) 32 = some (S_api_Wide.mk (h / 4294967296) (l / 4294967296 + h * 4294967296 % 18446744073709551616)) := by
  unfold p_wide_Shr
  have e1 : imax 32 0 = 32 := by decide
  simp only [e1, letO_e]
  rw [show decide ((32 : Int) ≥ 64) = false by decide, cond_false, show ((32 : Int) == 0) = false by decide, cond_false, reqF_ok _ (by decide), reqF_ok _ (by decide), reqF_ok _ (by decide)]
  rw [show I64 (64 - 32) = 32 by decide, shr32i, shr32u, U64_id hh (by omega), shl32, bor_comm, bor_dis 32 (by omega) (by omega) (by omega) (by omega) (by decide) ?_]
  · congr 2; omega
  · obtain ⟨H, rfl⟩ := Int.eq_ofNat_of_zero_le hh
    exact ⟨H % 4294967296, by omega⟩
theorem near (N : Nat) {h l : Int} (hh : 0 ≤ h) (hl : 0 ≤ l) (hl' : l < 18446744073709551616) : p_fix_near N (S_api_Wide.mk h l) = some (sat (h * 18446744073709551616 + l)) := by
  unfold p_fix_near p_wide_Int
  simp only [letO_e, shr63i]
  by_cases h1 : l < 9223372036854775808
  · have e : I64 l = l := I64_id (by omega) h1
    rw [e, show l / 9223372036854775808 = 0 by omega]
    by_cases h0 : h = 0
    · subst h0
      simp only [bne_self_eq_false, cond_false, Option.bind_some, cond_true]
      unfold sat
      rw [if_neg (by omega)]
      simp
    · rw [show (h != 0) = true by simp [h0]]
      simp only [cond_true, Option.bind_some, cond_false]
      rw [show decide (h < 0) = false by simp; omega, cond_false]
      unfold sat
      rw [if_pos (by omega)]
  · have e : I64 l = l - 18446744073709551616 := by rw [I64_e]; omega
    rw [e, show (l - 18446744073709551616) / 9223372036854775808 = -1 by omega, show (h != -1) = true by simp; omega]
    simp only [cond_true, Option.bind_some, cond_false]
    rw [show decide (h < 0) = false by simp; omega, cond_false]
    unfold sat
    rw [if_pos (by omega)]

theorem mulNear (N : Nat) {a b : Int} (ha : 0 ≤ a) (ha' : a < 9223372036854775808) (hb : 0 ≤ b) (hb' : b < 9223372036854775808) :
    (Option.bind (p_wide_Mul N a b) fun r7 => Option.bind (p_wide_Shr N r7 32) fun r8 => Option.bind (p_fix_near N r8) fun r9 => some r9) = some (sat (a * b / 4294967296)) := by
  obtain ⟨h1, h2⟩ := mul_hi ha ha' hb hb'
  rw [wmul N ha ha' hb hb']
  simp only [Option.bind_some]
  generalize a * b = p at *
  rw [wshr N (by omega) (by omega) (by omega) (by omega)]
  simp only [Option.bind_some]
  rw [near N (by omega) (by omega) (by omega)]
  simp only [Option.bind_some]
  congr 2
  omega

theorem idx2_0 (a b : Int) : idx [a, b] 0 = some a := rfl
theorem idx2_1 (a b : Int) : idx [a, b] 1 = some b := rfl

theorem fixMul (k : Nat) {a b : Int} (ha : 0 ≤ a) (ha' : a < 9223372036854775808) (hb : 0 ≤ b) (hb' : b < 9223372036854775808) : p_fix_Mul (k + 3) [a, b] = some (sat (a * b / 4294967296)) := by
  unfold p_fix_Mul
  simp only [letO_e, List.length_map, List.length_cons, List.length_nil]
  unfold p_fix_Mul_L1
  rw [show decide ((0 : Int) < ((0 + 1 + 1 : Nat) : Int)) = true by decide, cond_true, idx2_0]
  simp only [Option.bind_some, beq_self_eq_true, cond_true]
  rw [show I64 (0 + 1) = 1 by decide]
  unfold p_fix_Mul_L1
  rw [show decide ((1 : Int) < ((0 + 1 + 1 : Nat) : Int)) = true by decide, cond_true, idx2_1]
  simp only [Option.bind_some]
  rw [show ((1 : Int) == 0) = false by decide, cond_false, mulNear _ ha ha' hb hb']
  simp only [Option.bind_some]
  rw [show I64 (1 + 1) = 2 by decide]
  unfold p_fix_Mul_L1
  rw [show decide ((2 : Int) < ((0 + 1 + 1 : Nat) : Int)) = false by decide, cond_false]
  rfl

theorem refNear (N : Nat) {x : Int} {f : Bool} (hx : 0 ≤ x) (hx' : x < 18446744073709551616) : p_umbraref02_Near N x false f = some (cond f 9223372036854775807 (sat x)) := by
  unfold p_umbraref02_Near
  simp only [letO_e, cond_false]
  cases f with
  | true => rfl
  | false =>
    simp only [cond_false]
    by_cases h : x ≥ 9223372036854775808
    · rw [show decide (x ≥ 9223372036854775808) = true by simpa using h, cond_true]
      unfold sat; rw [if_pos (by omega)]
    · rw [show decide (x ≥ 9223372036854775808) = false by simpa using h, cond_false]
      unfold sat; rw [if_neg (by omega), I64_id (by omega) (by omega)]

theorem refTimes (N : Nat) {a b : Int} (ha : 0 ≤ a) (ha' : a < 9223372036854775808) (hb : 0 ≤ b) (hb' : b < 9223372036854775808) : p_umbraref02_Times N a b = some (sat (a * b / 4294967296)) := by
  obtain ⟨h1, h2⟩ := mul_hi ha ha' hb hb'
  unfold p_umbraref02_Times
  rw [rsize N ha ha', rsize N hb hb']
  simp only [Option.bind_some]
  rw [mul64 N ha (by omega) hb (by omega)]
  simp only [Option.bind_some, letO_e]
  generalize a * b = p at *
  rw [show decide (a < 0) = false by simp; omega, show decide (b < 0) = false by simp; omega]
  simp only [beq_self_eq_true, Bool.not_true, cond_false, Option.bind_some]
  rw [shl32, shr32u, bor_dis 32 (by omega) (by omega) (by omega) (by omega) (by decide) ?_, refNear N (by omega) (by omega)]
  · simp only [Option.bind_some]
    congr 1
    by_cases h : p / 18446744073709551616 ≥ 4294967296
    · rw [show decide (p / 18446744073709551616 ≥ 4294967296) = true by simpa using h, cond_true]
      unfold sat; rw [if_pos (by omega)]
    · rw [show decide (p / 18446744073709551616 ≥ 4294967296) = false by simpa using h, cond_false]
      congr 1
      omega
  · obtain ⟨H, hH⟩ := Int.eq_ofNat_of_zero_le (show 0 ≤ p / 18446744073709551616 by omega)
    rw [hH]
    exact ⟨H % 4294967296, by omega⟩
end Go.UK
