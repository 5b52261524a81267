/- A part of the proof: what the functions of the program compute. -/
import Derived.Test.YtcaadpceoajapaaW4
namespace Go.UK
open Go Go.Proofs
set_option maxRecDepth 20000
set_option linter.all false

theorem fixAdd (k : Nat) {a b : Int} (ha : 0 < a) (ha' : a < 9223372036854775808) (hb : -a ≤ b) (hb' : b < 9223372036854775808) : p_fix_Add (k + 3) [a, b] = some (sat (a + b)) := by
  unfold p_fix_Add
  simp only [letO_e, List.length_map, List.length_cons, List.length_nil]
  unfold p_fix_Add_L1
  rw [show decide ((0 : Int) < ((0 + 1 + 1 : Nat) : Int)) = true by decide, cond_true, idx2_0]
  simp only [Option.bind_some, letO_e]
  rw [show decide ((0 : Int) > 0) = false by decide, show I64 (0 + 1) = 1 by decide]
  simp only [cond_false, Option.bind_some]
  rw [show I64 (0 + a) = a by rw [Int.zero_add]; exact I64_id (by omega) ha']
  unfold p_fix_Add_L1
  rw [show decide ((1 : Int) < ((0 + 1 + 1 : Nat) : Int)) = true by decide, cond_true, idx2_1]
  simp only [Option.bind_some, letO_e]
  rw [show decide (a > 0) = true by simpa using ha, show decide (a < 0) = false by simp; omega, show I64 (1 + 1) = 2 by decide]
  simp only [cond_false, cond_true]
  unfold p_fix_Add_L1
  rw [show decide ((2 : Int) < ((0 + 1 + 1 : Nat) : Int)) = false by decide]
  simp only [cond_false]
  by_cases hb0 : b > 0
  · rw [show decide (b > 0) = true by simpa using hb0]
    simp only [cond_true]
    by_cases h : 9223372036854775808 ≤ a + b
    · rw [show decide (I64 (a + b) < 0) = true by rw [I64_e]; simp; omega]
      unfold sat; rw [if_pos h]; rfl
    · rw [I64_id (by omega) (by omega), show decide (a + b < 0) = false by simp; omega]
      unfold sat; rw [if_neg h]; rfl
  · rw [show decide (b > 0) = false by simpa using hb0]
    simp only [cond_false, Option.bind_some]
    rw [I64_id (by omega) (by omega)]
    unfold sat; rw [if_neg (by omega)]

theorem refTwo (N : Nat) {a b : Int} (ha : 0 ≤ a) (ha' : a < 9223372036854775808) (hb : -a ≤ b) (hb' : b < 9223372036854775808) : p_umbraref02_Two N a b = some (sat (a + b)) := by
  unfold p_umbraref02_Two
  rw [rsize N ha ha']
  simp only [Option.bind_some, letO_e]
  rw [show decide (a < 0) = false by simp; omega]
  by_cases h0 : b < 0
  · have : ∃ s, p_umbraref02_Size N b = some s := by
      unfold p_umbraref02_Size
      rw [show decide (b < 0) = true by simpa using h0, cond_true]
      exact ⟨_, rfl⟩
    obtain ⟨s, hs⟩ := this
    rw [hs]
    simp only [Option.bind_some]
    rw [show decide (b < 0) = true by simpa using h0]
    simp only [show (false == true) = false from rfl, cond_false]
    rw [I64_id (by omega) (by omega)]
    unfold sat; rw [if_neg (by omega)]
  · rw [rsize N (by omega) hb']
    simp only [Option.bind_some]
    rw [show decide (b < 0) = false by simpa using h0]
    simp only [beq_self_eq_true, cond_true]
    rw [U64_id (by omega) (by omega), show decide (a + b < a) = false by simp; omega, refNear N (by omega) (by omega)]
    rfl

theorem divs (k : Nat) {a y : Int} (ha : 0 < a) (ha' : a < 9223372036854775808) (hy : 0 < y) (hy' : y < 9223372036854775808) (hlt : a / 4294967296 < y) :
    ∃ q, 0 ≤ q ∧ q < 9223372036854775808 ∧ p_fix_Div (k + 2) a y = some q ∧ p_umbraref02_Div (k + 2) a y = some q := by
  obtain ⟨q, r, hq, hq0, hq1⟩ := div64 k (h := a / 4294967296) (l := a * 4294967296 % 18446744073709551616) hy (by omega) (by omega) hlt (by omega) (by omega)
  refine ⟨sat q, by unfold sat; split <;> omega, by unfold sat; split <;> omega, ?_, ?_⟩
  · unfold p_fix_Div
    rw [show (y == 0) = false by simp; omega, cond_false, wmul _ (by omega) ha' (by omega) (by omega)]
    simp only [Option.bind_some]
    rw [show a * 4294967296 / 18446744073709551616 = a / 4294967296 by omega]
    unfold p_wide_Div
    rw [show (y == 0) = false by simp; omega, cond_false]
    simp only []
    rw [show decide (a / 4294967296 < 0) = false by simp; omega]
    simp only [cond_false, Option.bind_some]
    rw [wsize _ (by omega) hy', U64_id (x := a / 4294967296) (by omega) (by omega)]
    simp only [Option.bind_some]
    rw [div64_0 _ hy (by omega) (by omega)]
    simp only [Option.bind_some]
    rw [show a / 4294967296 % y = a / 4294967296 from Int.emod_eq_of_lt (by omega) hlt, show a / 4294967296 / y = 0 from Int.ediv_eq_zero_of_lt (by omega) hlt, hq]
    simp only [Option.bind_some, letO_e, beq_self_eq_true, Bool.not_true, cond_false, p_wide_signed, cond_true]
    rw [show I64 0 = 0 by decide, show decide ((0 : Int) < 0) = false by decide]
    simp only [beq_self_eq_true, cond_true, Bool.not_true, cond_false, Option.bind_some]
    rw [near _ (by omega) hq0 hq1]
    simp only [Option.bind_some]
    congr 2
    omega
  · unfold p_umbraref02_Div
    simp only [letO_e]
    rw [show (y == 0) = false by simp; omega]
    simp only [cond_false]
    rw [rsize _ (by omega) ha', rsize _ (by omega) hy']
    simp only [Option.bind_some]
    rw [show decide (a < 0) = false by simp; omega, show decide (y < 0) = false by simp; omega, shr32u, show decide (a / 4294967296 ≥ y) = false by simp; omega]
    simp only [beq_self_eq_true, Bool.not_true, cond_false]
    rw [shl32, hq]
    simp only [Option.bind_some]
    rw [refNear _ hq0 hq1]
    rfl

theorem ofs (N : Nat) {a : Int} (ha : 0 ≤ a) (ha' : a < 2147483648) : p_fix_Of N a = some (a * 4294967296) ∧ p_umbraref02_Of N a = some (a * 4294967296) := by
  constructor
  · unfold p_fix_Of
    rw [wmul _ ha (by omega) (by omega) (by omega)]
    simp only [Option.bind_some]
    rw [near _ (by omega) (by omega) (by omega)]
    simp only [Option.bind_some]
    unfold sat
    rw [if_neg (by omega)]
    congr 1
    omega
  · unfold p_umbraref02_Of
    rw [rsize _ ha (by omega)]
    simp only [Option.bind_some, letO_e]
    rw [show decide (a < 0) = false by simp; omega, show decide (a ≥ 4294967296) = false by simp; omega, shl32, refNear _ (by omega) (by omega)]
    simp only [Option.bind_some, cond_false]
    unfold sat
    rw [if_neg (by omega)]
    congr 1
    omega

theorem floors (N : Nat) {a : Int} (ha : -9223372036854775808 ≤ a) (ha' : a < 9223372036854775808) : p_fix_Floor N a = some (a / 4294967296) ∧ p_umbraref02_Floor N a = some (a / 4294967296) := by
  refine ⟨by unfold p_fix_Floor; rw [shr32i], ?_⟩
  unfold p_umbraref02_Floor
  by_cases h : a ≥ 0
  · rw [rsize N h ha']
    simp only [Option.bind_some]
    rw [show decide (a ≥ 0) = true by simpa using h, cond_true, shr32u, I64_id (by omega) (by omega)]
  · have hs : p_umbraref02_Size N a = some (-a) := by
      unfold p_umbraref02_Size
      rw [show decide (a < 0) = true by simp; omega, cond_true]
      simp only [letO_e]
      rw [I64_id (x := a + 1) (by omega) (by omega), I64_id (by omega) (by omega), U64_id (x := 0 - (a + 1)) (by omega) (by omega), U64_id (by omega) (by omega)]
      congr 1; omega
    rw [hs]
    simp only [Option.bind_some, letO_e]
    rw [show decide (a ≥ 0) = false by simpa using h, cond_false, band32 (by omega) (by omega), shr32u]
    rw [I64_id (x := -a / 4294967296) (by omega) (by omega), I64_id (x := 0 - -a / 4294967296) (by omega) (by omega), I64_id (by omega) (by omega)]
    by_cases h2 : -a % 4294967296 = 0
    · rw [h2, show ((0 : Int) == 0) = true from rfl, cond_true]; congr 1; omega
    · rw [show (-a % 4294967296 == 0) = false by simpa using h2, cond_false]; congr 1; omega

theorem sat_rng {x : Int} (h : 0 ≤ x) : 0 ≤ sat x ∧ sat x < 9223372036854775808 := by unfold sat; split <;> omega

theorem tones (k : Nat) {a : Int} (ha : -9223372036854775808 ≤ a) (ha' : a < 9223372036854775808) : ∃ v, p_film_Tone (k + 3) a = some v ∧ p_umbraref29_Tone (k + 3) a = some v := by
  unfold p_film_Tone p_umbraref29_Tone
  by_cases h : a ≤ 0
  · rw [show decide (a ≤ 0) = true by simpa using h]
    exact ⟨0, rfl, rfl⟩
  · rw [show decide (a ≤ 0) = false by simpa using h]
    simp only [cond_false]
    rw [fixAdd k (by omega) ha' (by omega) (by omega), refTwo _ (by omega) ha' (by omega) (by omega), (ofs _ (by omega) (by omega)).1, (ofs _ (by omega) (by omega)).2]
    simp only [Option.bind_some]
    obtain ⟨s1, s2⟩ := sat_rng (show 0 ≤ a + 4294967296 by omega)
    have s3 : a / 4294967296 < sat (a + 4294967296) := by unfold sat; split <;> omega
    have s4 : 0 < sat (a + 4294967296) := by unfold sat; split <;> omega
    obtain ⟨q, h0, h1, e1, e2⟩ := divs (k + 1) (by omega) ha' s4 s2 s3
    rw [e1, e2]
    simp only [Option.bind_some]
    rw [fixMul k h0 h1 (by omega) (by omega), refTimes _ (by omega) (by omega) h0 h1, Int.mul_comm q]
    simp only [Option.bind_some]
    obtain ⟨t1, t2⟩ := sat_rng (show 0 ≤ 65535 * 4294967296 * q / 4294967296 by have := Int.mul_nonneg (show (0:Int) ≤ 65535 * 4294967296 by omega) h0; omega)
    rw [(floors _ (by omega) t2).1, (floors _ (by omega) t2).2]
    exact ⟨_, rfl, rfl⟩

theorem fars (N : Nat) {a : Int} (ha : -9223372036854775808 ≤ a) (ha' : a < 9223372036854775808) : ∃ v, p_film_Far N a = some v ∧ p_umbraref29_Far N a = some v := by
  unfold p_film_Far p_umbraref29_Far
  rw [(floors _ ha ha').1, (floors _ ha ha').2]
  simp only [Option.bind_some]
  refine ⟨_, rfl, ?_⟩
  unfold imin imax
  generalize a / 4294967296 = v
  by_cases h : v < 0
  · rw [show decide (v < 0) = true by simpa using h, cond_true]
    congr 1; (repeat' split) <;> omega
  · rw [show decide (v < 0) = false by simpa using h, cond_false]
    by_cases h2 : v > 65535
    · rw [show decide (v > 65535) = true by simpa using h2, cond_true]
      congr 1; (repeat' split) <;> omega
    · rw [show decide (v > 65535) = false by simpa using h2, cond_false]
      congr 1; (repeat' split) <;> omega

theorem clamps (N : Nat) (a : Int) : ∃ v, p_fix_Clamp N a (-4294967296) 4294967296 = some v ∧ p_umbraref02_Clamp N a (-4294967296) 4294967296 = some v ∧ -4294967296 ≤ v ∧ v ≤ 4294967296 := by
  unfold p_fix_Clamp p_umbraref02_Clamp
  refine ⟨_, rfl, ?_, ?_, ?_⟩
  · unfold imin imax
    by_cases h : a < -4294967296
    · rw [show decide (a < -4294967296) = true by simpa using h]
      simp only [cond_true, Option.bind_some]
      rw [show decide ((-4294967296 : Int) > 4294967296) = false by decide]
      simp only [cond_false, Option.bind_some]
      congr 1; (repeat' split) <;> omega
    · rw [show decide (a < -4294967296) = false by simpa using h]
      simp only [cond_false, Option.bind_some]
      by_cases h2 : a > 4294967296
      · rw [show decide (a > 4294967296) = true by simpa using h2]
        simp only [cond_true, Option.bind_some]
        congr 1; (repeat' split) <;> omega
      · rw [show decide (a > 4294967296) = false by simpa using h2]
        simp only [cond_false, Option.bind_some]
        congr 1; (repeat' split) <;> omega
  · unfold imin imax; (repeat' split) <;> omega
  · unfold imin imax; (repeat' split) <;> omega

theorem sides (k : Nat) (a : Int) : ∃ v, p_film_Side (k + 3) a = some v ∧ p_umbraref29_Side (k + 3) a = some v := by
  unfold p_film_Side p_umbraref29_Side
  obtain ⟨c, h1, h2, h3, h4⟩ := clamps (k + 3) a
  rw [h1, h2, (ofs _ (by omega) (by omega)).1, (ofs _ (by omega) (by omega)).2]
  simp only [Option.bind_some]
  rw [fixAdd k (by omega) (by omega) (by omega) (by omega), refTwo _ (by omega) (by omega) (by omega) (by omega)]
  simp only [Option.bind_some]
  obtain ⟨s1, s2⟩ := sat_rng (show 0 ≤ 4294967296 + c by omega)
  rw [fixMul k (by omega) (by omega) s1 s2, refTimes _ (by omega) (by omega) s1 s2]
  simp only [Option.bind_some]
  obtain ⟨t1, t2⟩ := sat_rng (show 0 ≤ 32767 * 4294967296 * sat (4294967296 + c) / 4294967296 by have := Int.mul_nonneg (show (0:Int) ≤ 32767 * 4294967296 by omega) s1; omega)
  rw [(floors _ (by omega) t2).1, (floors _ (by omega) t2).2]
  exact ⟨_, rfl, rfl⟩

theorem worksT : p_umbralaw29_works 5 = some true := by kernel_rfl

theorem filmNumbersT {a : Int} (ha : -9223372036854775808 ≤ a) (ha' : a < 9223372036854775808) : p_umbralaw29_FilmNumbers 5 a = some true := by
  unfold p_umbralaw29_FilmNumbers
  obtain ⟨t, h1, h2⟩ := tones 2 ha ha'
  obtain ⟨f, h3, h4⟩ := fars 5 ha ha'
  obtain ⟨s, h5, h6⟩ := sides 2 a
  rw [h1, h2]
  simp only [Option.bind_some, letO_e, beq_self_eq_true, cond_true]
  rw [h3, h4]
  simp only [Option.bind_some, letO_e, beq_self_eq_true, cond_true]
  rw [h5, h6]
  simp only [Option.bind_some, letO_e, beq_self_eq_true, cond_true]
  rw [worksT]
  rfl

/-- The call, over every world. -/
theorem filmNumbersFn {a : Int} (ha : -9223372036854775808 ≤ a) (ha' : a < 9223372036854775808) : Fn Try.prog 7 [eI .i64 a] (eB true) :=
  umbralaw29_FilmNumbers_ok 5 a true (filmNumbersT ha ha')
end Go.UK
