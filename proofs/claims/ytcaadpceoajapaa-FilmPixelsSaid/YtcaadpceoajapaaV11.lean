/- A part of the proof: what the functions of the program compute. -/
import Derived.Test.YtcaadpceoajapaaV10
namespace Go.UK
open Go Go.Proofs
set_option maxRecDepth 20000
set_option maxHeartbeats 2000000
set_option linter.all false

theorem rOf (N : Nat) {a : Int} (ha : in64 a) : p_umbraref02_Of N a = some (S64 (a * 4294967296)) := by
  unfold p_umbraref02_Of
  rw [rsz N ha]
  obtain ⟨a1, a2⟩ := ha
  simp only [Option.bind_some, letO_e]
  rw [shl32]
  by_cases s : a < 0
  · rw [if_pos s, dt s, rnear _ _ _ (by omega) (by omega)]
    simp only [Option.bind_some, cond_true]
    congr 1
    by_cases h : -a ≥ 4294967296
    · rw [dt h, cond_true]; unfold S64; rw [if_pos (by omega)]
    · rw [df h, cond_false]; congr 1; omega
  · rw [if_neg s, df s, rnear _ _ _ (by omega) (by omega)]
    simp only [Option.bind_some, cond_false]
    congr 1
    by_cases h : a ≥ 4294967296
    · rw [dt h, cond_true]; unfold S64; rw [if_neg (by omega), if_pos (by omega)]
    · rw [df h, cond_false]; congr 1; omega

theorem fixFloor (N : Nat) (a : Int) : p_fix_Floor N a = some (a / 4294967296) := by unfold p_fix_Floor; rw [shr32i]
theorem rFloor (N : Nat) {a : Int} (ha : in64 a) : p_umbraref02_Floor N a = some (a / 4294967296) := by
  unfold p_umbraref02_Floor
  rw [rsz N ha]
  obtain ⟨a1, a2⟩ := ha
  simp only [Option.bind_some, letO_e]
  by_cases h : a ≥ 0
  · rw [dt h, cond_true, if_neg (by omega), shr32u, I64_id (by omega) (by omega)]
  · rw [df h, cond_false, if_pos (by omega), band32 (by omega) (by omega), shr32u]
    rw [I64_id (x := -a / 4294967296) (by omega) (by omega), I64_id (x := 0 - -a / 4294967296) (by omega) (by omega), I64_id (by omega) (by omega)]
    by_cases h2 : -a % 4294967296 = 0
    · rw [h2, show ((0 : Int) == 0) = true from rfl, cond_true]; congr 1; omega
    · rw [show (-a % 4294967296 == 0) = false by simpa using h2, cond_false]; congr 1; omega

theorem in_c {z : Int} (h : -9223372036854775808 ≤ z) (h' : z ≤ 9223372036854775807) : in64 z := ⟨h, h'⟩

theorem toneEq (k : Nat) {a : Int} (ha : in64 a) : ∃ v, p_film_Tone (k + 3) a = some v ∧ p_umbraref29_Tone (k + 3) a = some v := by
  unfold p_film_Tone p_umbraref29_Tone
  by_cases h : a ≤ 0
  · rw [dt h]; exact ⟨0, rfl, rfl⟩
  · rw [df h]
    simp only [cond_false]
    have h1 : in64 (4294967296 : Int) := ⟨by decide, by decide⟩
    have h2 : in64 (65535 : Int) := ⟨by decide, by decide⟩
    rw [fixAdd2 k ha h1, rTwo _ ha h1, fixOfA _ h2, rOf _ h2]
    simp only [Option.bind_some]
    have hne : S64 (a + 4294967296) ≠ 0 := by obtain ⟨a1, a2⟩ := ha; unfold S64; (repeat' split) <;> omega
    obtain ⟨q, hq, e1, e2⟩ := divEq k ha (S64_in (a + 4294967296)) hne
    rw [e1, e2]
    simp only [Option.bind_some]
    rw [fixMul2 k hq (S64_in _), rTimes _ (S64_in _) hq, Int.mul_comm]
    simp only [Option.bind_some]
    rw [fixFloor, rFloor _ (S64_in _)]
    exact ⟨_, rfl, rfl⟩

theorem farEq (N : Nat) {a : Int} (ha : in64 a) : ∃ v, p_film_Far N a = some v ∧ p_umbraref29_Far N a = some v := by
  unfold p_film_Far p_umbraref29_Far
  rw [fixFloor, rFloor _ ha]
  simp only [Option.bind_some]
  refine ⟨_, rfl, ?_⟩
  unfold imin imax
  generalize a / 4294967296 = v
  by_cases h : v < 0
  · rw [dt h, cond_true]
    congr 1; (repeat' split) <;> omega
  · rw [df h, cond_false]
    by_cases h2 : v > 65535
    · rw [dt h2, cond_true]
      congr 1; (repeat' split) <;> omega
    · rw [df h2, cond_false]
      congr 1; (repeat' split) <;> omega

theorem clampEq (N : Nat) (a : Int) : ∃ v, p_fix_Clamp N a (-4294967296) 4294967296 = some v ∧ p_umbraref02_Clamp N a (-4294967296) 4294967296 = some v ∧ in64 v := by
  unfold p_fix_Clamp p_umbraref02_Clamp
  refine ⟨_, rfl, ?_, ?_⟩
  · unfold imin imax
    by_cases h : a < -4294967296
    · rw [dt h]
      simp only [cond_true, Option.bind_some]
      rw [df (show ¬ (-4294967296 : Int) > 4294967296 by decide)]
      simp only [cond_false, Option.bind_some]
      congr 1; (repeat' split) <;> omega
    · rw [df h]
      simp only [cond_false, Option.bind_some]
      by_cases h2 : a > 4294967296
      · rw [dt h2]
        simp only [cond_true, Option.bind_some]
        congr 1; (repeat' split) <;> omega
      · rw [df h2]
        simp only [cond_false, Option.bind_some]
        congr 1; (repeat' split) <;> omega
  · unfold imin imax in64; constructor <;> (repeat' split) <;> omega

theorem sideEq (k : Nat) (a : Int) : ∃ v, p_film_Side (k + 3) a = some v ∧ p_umbraref29_Side (k + 3) a = some v := by
  unfold p_film_Side p_umbraref29_Side
  obtain ⟨c, h1, h2, h3⟩ := clampEq (k + 3) a
  have i1 : in64 (4294967296 : Int) := ⟨by decide, by decide⟩
  have i2 : in64 (32767 : Int) := ⟨by decide, by decide⟩
  rw [h1, h2, fixOfA _ i2, rOf _ i2]
  simp only [Option.bind_some]
  rw [fixAdd2 k i1 h3, rTwo _ i1 h3]
  simp only [Option.bind_some]
  rw [fixMul2 k (S64_in _) (S64_in _), rTimes _ (S64_in _) (S64_in _)]
  simp only [Option.bind_some]
  rw [fixFloor, rFloor _ (S64_in _)]
  exact ⟨_, rfl, rfl⟩
end Go.UK
