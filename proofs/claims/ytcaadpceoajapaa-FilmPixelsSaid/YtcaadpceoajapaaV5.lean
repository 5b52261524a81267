/- A part of the proof: what the functions of the program compute. -/
import Derived.Test.YtcaadpceoajapaaP5
import Derived.Test.YtcaadpceoajapaaV1
namespace Go.UK
open Go Go.Proofs
set_option maxRecDepth 20000
set_option linter.all false

/-- the nearest that 64 bits hold -/
def S64 (z : Int) : Int := if z < -9223372036854775808 then -9223372036854775808 else if 9223372036854775807 < z then 9223372036854775807 else z
theorem S64_in (z : Int) : in64 (S64 z) := by unfold S64 in64; (repeat' split) <;> omega
theorem S64_id {z : Int} (h : in64 z) : S64 z = z := by unfold S64; obtain ⟨h1, h2⟩ := h; rw [if_neg (by omega), if_neg (by omega)]

theorem ix0 (a b : Int) : idx [a, b] 0 = some a := rfl
theorem ix1 (a b : Int) : idx [a, b] 1 = some b := rfl

/-- one step of the sum -/
theorem add_step {s e : Int} (hs : in64 s) (he : in64 e) :
    (letO (cond (decide (s > 0)) (decide (e > 0)) false) fun x7 => letO (decide ((I64 (s + e)) < 0)) fun x8 => cond (cond x7 x8 false) (some (9223372036854775807 : Int)) (
        letO (cond (decide (s < 0)) (decide (e < 0)) false) fun x9 => letO (decide ((I64 (s + e)) ≥ 0)) fun x10 => cond (cond x9 x10 false) (some (-9223372036854775808)) (some (I64 (s + e))))) = some (S64 (s + e)) := by
  simp only [letO_e]
  obtain ⟨h1, h2⟩ := hs
  obtain ⟨h3, h4⟩ := he
  by_cases a1 : s > 0
  · rw [dt a1, df (show ¬ s < 0 by omega)]
    simp only [cond_true, cond_false]
    by_cases a2 : e > 0
    · rw [dt a2]
      simp only [cond_true]
      by_cases a3 : 9223372036854775807 < s + e
      · rw [dt (show I64 (s + e) < 0 by rw [I64_e]; omega), cond_true]
        unfold S64; rw [if_neg (by omega), if_pos a3]
      · rw [I64_id (by omega) (by omega), df (show ¬ s + e < 0 by omega), cond_false]
        rw [S64_id ⟨by omega, by omega⟩]
    · rw [df a2, cond_false, I64_id (by omega) (by omega), S64_id ⟨by omega, by omega⟩]; rfl
  · rw [df a1]
    simp only [cond_false]
    by_cases a2 : s < 0
    · rw [dt a2]
      simp only [cond_true]
      by_cases a3 : e < 0
      · rw [dt a3]
        simp only [cond_true]
        by_cases a4 : s + e < -9223372036854775808
        · rw [dt (show I64 (s + e) ≥ 0 by rw [I64_e]; omega), cond_true]
          unfold S64; rw [if_pos a4]
        · rw [I64_id (by omega) (by omega), df (show ¬ s + e ≥ 0 by omega), cond_false]
          rw [S64_id ⟨by omega, by omega⟩]
      · rw [df a3, cond_false, I64_id (by omega) (by omega), S64_id ⟨by omega, by omega⟩]; rfl
    · rw [df a2, cond_false, I64_id (by omega) (by omega), S64_id ⟨by omega, by omega⟩]; rfl

theorem fixAdd2 (k : Nat) {a b : Int} (ha : in64 a) (hb : in64 b) : p_fix_Add (k + 3) [a, b] = some (S64 (a + b)) := by
  unfold p_fix_Add
  have l2 : (([a, b] : List Int).length : Int) = 2 := rfl
  rw [p_fix_Add_L1, letO_e, l2, dt (show (0 : Int) < 2 by decide), cond_true, ix0]
  simp only [Option.bind_some]
  rw [add_step (s := 0) ⟨by decide, by decide⟩ ha]
  simp only [Option.bind_some]
  rw [show I64 (0 + 1) = 1 by decide, p_fix_Add_L1, letO_e, l2, dt (show (1 : Int) < 2 by decide), cond_true, ix1]
  simp only [Option.bind_some]
  rw [Int.zero_add, S64_id ha, add_step ha hb]
  simp only [Option.bind_some]
  rw [show I64 (1 + 1) = 2 by decide, p_fix_Add_L1, letO_e, l2, df (show ¬ (2 : Int) < 2 by decide), cond_false]
  rfl

theorem rsz (N : Nat) {a : Int} (ha : in64 a) : p_umbraref02_Size N a = some (if a < 0 then -a else a) := by
  obtain ⟨h1, h2⟩ := ha
  unfold p_umbraref02_Size
  by_cases h : a < 0
  · rw [dt h, cond_true, if_pos h, letO_e]
    congr 1
    rw [I64_id (x := a + 1) (by omega) (by omega), I64_id (by omega) (by omega), U64_id (x := 0 - (a + 1)) (by omega) (by omega), U64_id (by omega) (by omega)]
    omega
  · rw [df h, cond_false, if_neg h, U64_id (by omega) (by omega)]

/-- ref02's Near: a size and a sign -/
theorem rnear (N : Nat) {x : Int} (m f : Bool) (h0 : 0 ≤ x) (h1 : x < 18446744073709551616) : p_umbraref02_Near N x m f = some (cond f (cond m (-9223372036854775808) 9223372036854775807) (S64 (cond m (-x) x))) := by
  unfold p_umbraref02_Near
  simp only [letO_e]
  cases m <;> cases f <;> simp only [cond_true, cond_false]
  · by_cases h : x ≥ 9223372036854775808
    · rw [dt h, cond_true]; unfold S64; rw [if_neg (by omega), if_pos (by omega)]
    · rw [df h, cond_false, I64_id (by omega) (by omega), S64_id ⟨by omega, by omega⟩]
  · by_cases h : x ≥ 9223372036854775808
    · rw [dt h, cond_true]
      unfold S64
      by_cases h2 : x = 9223372036854775808
      · subst h2; rfl
      · rw [if_pos (by omega)]
    · rw [df h, cond_false, I64_id (x := x) (by omega) (by omega), I64_id (by omega) (by omega), S64_id ⟨by omega, by omega⟩]
      congr 1; omega

theorem rTwo (N : Nat) {a b : Int} (ha : in64 a) (hb : in64 b) : p_umbraref02_Two N a b = some (S64 (a + b)) := by
  unfold p_umbraref02_Two
  rw [rsz N ha, rsz N hb]
  obtain ⟨h1, h2⟩ := ha
  obtain ⟨h3, h4⟩ := hb
  simp only [Option.bind_some, letO_e]
  by_cases s1 : a < 0 <;> by_cases s2 : b < 0
  · rw [dt s1, dt s2, if_pos s1, if_pos s2]
    simp only [beq_self_eq_true, cond_true]
    rw [rnear N _ _ (U64_lo _) (U64_hi _)]
    simp only [Option.bind_some, cond_true]
    congr 1
    by_cases ho : -a + -b = 18446744073709551616
    · rw [ho, dt (show U64 18446744073709551616 < -a by rw [U64_e]; omega), cond_true]
      unfold S64; rw [if_pos (by omega)]
    · rw [U64_id (by omega) (by omega), df (show ¬ (-a + -b < -a) by omega), cond_false]
      congr 1; omega
  · rw [dt s1, df s2, if_pos s1, if_neg s2]
    simp only [show (true == false) = false from rfl, cond_false]
    rw [I64_id (by omega) (by omega), S64_id ⟨by omega, by omega⟩]
  · rw [df s1, dt s2, if_neg s1, if_pos s2]
    simp only [show (false == true) = false from rfl, cond_false]
    rw [I64_id (by omega) (by omega), S64_id ⟨by omega, by omega⟩]
  · rw [df s1, df s2, if_neg s1, if_neg s2]
    simp only [beq_self_eq_true, cond_true]
    rw [rnear N _ _ (U64_lo _) (U64_hi _), U64_id (by omega) (by omega), df (show ¬ (a + b < a) by omega)]
    rfl
end Go.UK
