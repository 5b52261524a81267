/- A part of the proof: what the functions of the program compute. -/
import Derived.Test.YtcaadpceoajapaaV21
import Derived.Test.YtcaadpceoajapaaQ1
namespace Go.UK
open Go Go.Proofs
set_option maxRecDepth 20000
set_option maxHeartbeats 2000000
set_option linter.all false
abbrev eq3 (a b : Vector Int 3) : Bool := eqV (fun a b => a == b) a b
theorem threes3 (N : Nat) (a b : List (Vector Int 3)) (hl : a.length ≤ 9223372036854775807) (hN : a.length < N) : p_umbraref29_threes N a b = some (eqL eq3 a b) := by
  unfold p_umbraref29_threes
  simp only [letO_e, List.length_map]
  by_cases hab : a.length = b.length
  · rw [show ((a.length : Int) != (b.length : Int)) = false by simp [hab], cond_false]
    have := loopEq eq3 a b hab hl (p_umbraref29_threes_L1 N a b) ?_ ?_ ?_ N 0 (by omega) (by omega)
    · rw [show ((0 : Nat) : Int) = 0 from rfl] at this
      rw [this]
      exact sumIf
    · intro k s x y hs hx hy he
      conv => lhs; unfold p_umbraref29_threes_L1
      simp only [letO_e, List.length_map]
      rw [show decide (s < (a.length : Int)) = true by simpa using hs, cond_true, hx, hy]
      simp only [Option.bind_some, letO_e]
      rw [show eqV (fun a b => a == b) x y = true from he]; rfl
    · intro k s x y hs hx hy he
      conv => lhs; unfold p_umbraref29_threes_L1
      simp only [letO_e, List.length_map]
      rw [show decide (s < (a.length : Int)) = true by simpa using hs, cond_true, hx, hy]
      simp only [Option.bind_some, letO_e]
      rw [show eqV (fun a b => a == b) x y = false from he]; rfl
    · intro k s hs
      unfold p_umbraref29_threes_L1
      simp only [letO_e, List.length_map]
      rw [show decide (s < (a.length : Int)) = false by simpa using hs]; rfl
  · rw [show ((a.length : Int) != (b.length : Int)) = true by simp; omega, cond_true, eqL_len hab]
theorem intsI (N : Nat) (a b : List Int) (hl : a.length ≤ 9223372036854775807) (hN : a.length < N) : p_umbraref29_Ints N a b = some (eqL eqI a b) := by
  unfold p_umbraref29_Ints
  simp only [letO_e, List.length_map]
  by_cases hab : a.length = b.length
  · rw [show ((a.length : Int) != (b.length : Int)) = false by simp [hab], cond_false]
    have := loopEq eqI a b hab hl (p_umbraref29_Ints_L1 N a b) ?_ ?_ ?_ N 0 (by omega) (by omega)
    · rw [show ((0 : Nat) : Int) = 0 from rfl] at this
      rw [this]
      exact sumIf
    · intro k s x y hs hx hy he
      conv => lhs; unfold p_umbraref29_Ints_L1
      simp only [letO_e, List.length_map]
      rw [show decide (s < (a.length : Int)) = true by simpa using hs, cond_true, hx, hy]
      simp only [Option.bind_some]
      rw [show (x != y) = false by simpa [eqI] using he]; rfl
    · intro k s x y hs hx hy he
      conv => lhs; unfold p_umbraref29_Ints_L1
      simp only [letO_e, List.length_map]
      rw [show decide (s < (a.length : Int)) = true by simpa using hs, cond_true, hx, hy]
      simp only [Option.bind_some]
      rw [show (x != y) = true by simpa [eqI] using he]; rfl
    · intro k s hs
      unfold p_umbraref29_Ints_L1
      simp only [letO_e, List.length_map]
      rw [show decide (s < (a.length : Int)) = false by simpa using hs]; rfl
  · rw [show ((a.length : Int) != (b.length : Int)) = true by simp; omega, cond_true, eqL_len hab]


theorem eq3_refl (x : Vector Int 3) : eq3 x x = true := by unfold eq3 eqV; exact eqL_refl (fun y => by simp) _
theorem eqI_refl (x : Int) : eqI x x = true := by simp [eqI]
/-- an image is the same as itself -/
theorem sameSelf (N : Nat) (r : S_api_Image) (h : imgOk r) (hN : 1 < N) : p_umbraref29_Same N r r = some true := by
  obtain ⟨h1, h2, h3, h4, h5, h6⟩ := h
  unfold p_umbraref29_Same
  rw [threes3 N _ _ (by omega) (by omega), threes3 N _ _ (by omega) (by omega), intsI N _ _ (by omega) (by omega), intsI N _ _ (by omega) (by omega), intsI N _ _ (by omega) (by omega), intsI N _ _ (by omega) (by omega)]
  rw [eqL_refl eq3_refl, eqL_refl eq3_refl, eqL_refl eqI_refl, eqL_refl eqI_refl, eqL_refl eqI_refl, eqL_refl eqI_refl]
  simp [letO_e]

def cutTex (x : S_api_Texture) : S_api_Texture := ⟨x.gSide, x.gTexels.take 260⟩
theorem fewL (N : Nat) (s : S_api_Scene) (hl : s.gTexs.length ≤ 9223372036854775807) : ∀ (k i : Nat) (acc : List S_api_Texture), i ≤ 4 → acc.length = i → i ≤ s.gTexs.length → 4 - i < k →
    p_umbralaw28_Few_L1 N s k acc (i : Int) = some (acc ++ ((s.gTexs.take 4).drop i).map cutTex)
  | 0, i, _, _, _, _, h => by omega
  | k + 1, i, acc, hi, ha, hi2, hk => by
    rw [p_umbralaw28_Few_L1, letO_e, letO_e]
    by_cases h : i < s.gTexs.length ∧ i < 4
    · have hlt : i < (s.gTexs.take 4).length := by rw [List.length_take]; omega
      rw [dt (show (i : Int) < (s.gTexs.length : Int) by omega), dt (show (i : Int) < 4 by omega), cond_true, cond_true, idx_at h.1, Option.bind_some, letO_e, show (260 : Int) = ((260 : Nat) : Int) from rfl, slcO_min, Option.bind_some, appO_ok (by simp; omega), Option.bind_some, I64_s (by omega), fewL N s hl k (i + 1) _ (by omega) (by simp [ha]) (by omega) (by omega)]
      rw [List.drop_eq_getElem_cons hlt, List.map_cons, List.append_assoc, List.getElem_take]
      rfl
    · have e : cond (decide ((i : Int) < (s.gTexs.length : Int))) (decide ((i : Int) < 4)) false = false := by
        by_cases h1 : i < s.gTexs.length
        · rw [dt (show (i : Int) < (s.gTexs.length : Int) by omega), df (show ¬ (i : Int) < 4 by omega)]; rfl
        · rw [df (show ¬ (i : Int) < (s.gTexs.length : Int) by omega)]; rfl
      rw [e, cond_false, List.drop_of_length_le (by rw [List.length_take]; omega)]
      simp
def few28 (s : S_api_Scene) : S_api_Scene := ⟨s.gTris.take 20, s.gMats.take 8, (s.gTexs.take 4).map cutTex, s.gLights.take 5, s.gIds.take 20, s.gLabels.take 20, s.gLabel, s.gFrom, s.gTo⟩
theorem few28_e (N : Nat) (hN : 5 ≤ N) (s : S_api_Scene) (hl : s.gTexs.length ≤ 9223372036854775807) : p_umbralaw28_Few N s = some (few28 s) := by
  unfold p_umbralaw28_Few
  have := fewL N s hl N 0 [] (by omega) rfl (by omega) (by omega)
  rw [show ((0 : Nat) : Int) = 0 from rfl] at this
  rw [this, Option.bind_some]
  simp only [letO_e]
  rw [show (20 : Int) = ((20 : Nat) : Int) from rfl, show (8 : Int) = ((8 : Nat) : Int) from rfl, show (5 : Int) = ((5 : Nat) : Int) from rfl, slcO_min, slcO_min, slcO_min, slcO_min, slcO_min]
  rfl
end Go.UK
