/- A part of the proof: what the functions of the program compute. -/
import Derived.Test.YtcaadpceoajapaaZ5
namespace Go.UK
open Go Go.Proofs
set_option maxRecDepth 20000
set_option maxHeartbeats 2000000
set_option linter.all false
theorem intsI (N : Nat) (a b : List Int) (hl : a.length ≤ 9223372036854775807) (hN : a.length < N) : p_umbraref29_Ints N a b = some (eqL eqI a b) := by
  unfold p_umbraref29_Ints
  simp only [letO_e, List.length_map]
  by_cases hab : a.length = b.length
  · rw [show ((a.length : Int) != (b.length : Int)) = false by simp [hab], cond_false]
    have := loopEq eqI a b hab hl (p_umbraref29_Ints_L1 N a b) ?_ ?_ ?_ N 0 (by omega) (by omega)
    · rw [show ((0 : Nat) : Int) = 0 from rfl] at this
      rw [this]
      exact sumIf
    · intro k s x y hs hx hy he
      conv => lhs; unfold p_umbraref29_Ints_L1
      simp only [letO_e, List.length_map]
      rw [show decide (s < (a.length : Int)) = true by simpa using hs, cond_true, hx, hy]
      simp only [Option.bind_some]
      rw [show (x != y) = false by simpa [eqI] using he]; rfl
    · intro k s x y hs hx hy he
      conv => lhs; unfold p_umbraref29_Ints_L1
      simp only [letO_e, List.length_map]
      rw [show decide (s < (a.length : Int)) = true by simpa using hs, cond_true, hx, hy]
      simp only [Option.bind_some]
      rw [show (x != y) = true by simpa [eqI] using he]; rfl
    · intro k s hs
      unfold p_umbraref29_Ints_L1
      simp only [letO_e, List.length_map]
      rw [show decide (s < (a.length : Int)) = false by simpa using hs]; rfl
  · rw [show ((a.length : Int) != (b.length : Int)) = true by simp; omega, cond_true, eqL_len hab]


theorem intsSelf (N : Nat) (a : List Int) (hl : a.length ≤ 9223372036854775807) (hN : a.length < N) : p_umbraref29_Ints N a a = some true := by
  rw [intsI N a a hl hN, eqL_refl (fun x => by simp [eqI])]
theorem same30Self (N : Nat) (p : S_api_Plane) (hl : p.gData.length ≤ 16384) (hN : 16385 < N) : p_umbraref30_Same N p p = some true := by
  unfold p_umbraref30_Same
  rw [letO_e, letO_e, letO_e, intsSelf N _ (by omega) (by omega)]
  simp
def few42 (p : S_api_Plane) : S_api_Plane := ⟨p.gW, p.gH, p.gDeep, p.gName.extract 0 (min p.gName.size 20), p.gData.take 150⟩
theorem few42_e (N : Nat) (p : S_api_Plane) : p_umbralaw42_few N p = some (few42 p) := by
  unfold p_umbralaw42_few
  rw [letO_e, show (150 : Int) = ((150 : Nat) : Int) from rfl, slcO_min, Option.bind_some, letO_e, show (20 : Int) = ((20 : Nat) : Int) from rfl, slcS_take, Option.bind_some]
  rfl
theorem few42_small (p : S_api_Plane) {N : Nat} (hN : 16385 < N) : Small42 (few42 p) N := by
  have h1 : (few42 p).gName.size ≤ 20 := by unfold few42; dsimp only; rw [ByteArray.size_extract]; omega
  have h2 : (few42 p).gData.length ≤ 150 := by unfold few42; dsimp only; rw [List.length_take]; omega
  exact ⟨by omega, by omega, by omega, by omega⟩
theorem works42 (k : Nat) : p_umbralaw42_works (k + 16) = some true := by kernel_rfl
end Go.UK
