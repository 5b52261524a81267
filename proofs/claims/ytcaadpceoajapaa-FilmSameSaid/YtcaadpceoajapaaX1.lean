/- A part of the proof: what the functions of the program compute. -/
import Derived.Test.YtcaadpceoajapaaF4
import Derived.Test.YtcaadpceoajapaaFO
import Derived.Test.YtcaadpceoajapaaW1
namespace Go.UK
open Go Go.Proofs
set_option maxRecDepth 20000
set_option linter.all false

theorem eqL_refl {α : Type} {eq : α → α → Bool} (h : ∀ a, eq a a = true) : ∀ l : List α, eqL eq l l = true
  | [] => rfl
  | a :: l => by simp [eqL, h, eqL_refl h l]

/-- a loop that holds two lists against each other -/
theorem loopEq {α : Type} (eq : α → α → Bool) (a b : List α) (hab : a.length = b.length) (hl : a.length ≤ 9223372036854775807) (F : Nat → Int → Option (Sum Unit Bool))
    (h1 : ∀ k s x y, s < (a.length : Int) → idx a s = some x → idx b s = some y → eq x y = true → F (k + 1) s = F k (I64 (s + 1)))
    (h2 : ∀ k s x y, s < (a.length : Int) → idx a s = some x → idx b s = some y → eq x y = false → F (k + 1) s = some (Sum.inr false))
    (h3 : ∀ k s, ¬ s < (a.length : Int) → F (k + 1) s = some (Sum.inl ())) :
    ∀ (k i : Nat), i ≤ a.length → a.length - i < k → F k (i : Int) = some (if eqL eq (a.drop i) (b.drop i) = true then Sum.inl () else Sum.inr false) := by
  intro k
  induction k with
  | zero => intro i _ h; omega
  | succ k ih =>
    intro i hi hk
    by_cases hlt : i < a.length
    · have ea : idx a (i : Int) = some a[i] := by unfold idx; simp [hlt]
      have eb : idx b (i : Int) = some b[i] := by unfold idx; simp [show i < b.length by omega]
      rw [List.drop_eq_getElem_cons hlt, List.drop_eq_getElem_cons (show i < b.length by omega)]
      cases hq : eq a[i] b[i] with
      | true =>
        rw [h1 k i _ _ (by omega) ea eb hq]
        have : I64 ((i : Int) + 1) = ((i + 1 : Nat) : Int) := by rw [I64_id (by omega) (by omega)]; rfl
        rw [this, ih (i + 1) hlt (by omega)]
        simp [eqL, hq]
      | false =>
        rw [h2 k i _ _ (by omega) ea eb hq]
        simp [eqL, hq]
    · rw [h3 k i (by omega), List.drop_of_length_le (by omega), List.drop_of_length_le (by omega)]
      rfl

theorem eqL_len {α : Type} {eq : α → α → Bool} : ∀ {a b : List α}, a.length ≠ b.length → eqL eq a b = false
  | [], [], h => absurd rfl h
  | [], _ :: _, _ => rfl
  | _ :: _, [], _ => rfl
  | x :: xs, y :: ys, h => by simp [eqL, eqL_len (a := xs) (b := ys) (by simpa using h)]

theorem sumIf {c : Bool} : (Option.bind (some (if c = true then (Sum.inl () : Sum Unit Bool) else Sum.inr false)) fun o => sumC o (fun _ => some true) (fun r => some r)) = some c := by cases c <;> rfl

abbrev eqI (a b : Int) : Bool := a == b
abbrev eq3 (a b : Vector Int 3) : Bool := eqV (fun a b => a == b) a b

theorem alike3 (N : Nat) (a b : List (Vector Int 3)) (hl : a.length ≤ 9223372036854775807) (hN : a.length < N) : p_film_alike_3_int N a b = some (eqL eq3 a b) := by
  unfold p_film_alike_3_int
  simp only [letO_e, List.length_map]
  by_cases hab : a.length = b.length
  · rw [show ((a.length : Int) != (b.length : Int)) = false by simp [hab], cond_false]
    have := loopEq eq3 a b hab hl (p_film_alike_3_int_L1 N (a.length : Int) a b) ?_ ?_ ?_ N 0 (by omega) (by omega)
    · rw [show ((0 : Nat) : Int) = 0 from rfl] at this
      rw [this]
      exact sumIf
    · intro k s x y hs hx hy he
      conv => lhs; unfold p_film_alike_3_int_L1
      rw [show decide (s < (a.length : Int)) = true by simpa using hs, cond_true, hx, hy]
      simp only [Option.bind_some, letO_e]
      rw [show eqV (fun a b => a == b) x y = true from he]; rfl
    · intro k s x y hs hx hy he
      conv => lhs; unfold p_film_alike_3_int_L1
      rw [show decide (s < (a.length : Int)) = true by simpa using hs, cond_true, hx, hy]
      simp only [Option.bind_some, letO_e]
      rw [show eqV (fun a b => a == b) x y = false from he]; rfl
    · intro k s hs
      unfold p_film_alike_3_int_L1
      rw [show decide (s < (a.length : Int)) = false by simpa using hs]; rfl
  · rw [show ((a.length : Int) != (b.length : Int)) = true by simp; omega, cond_true, eqL_len hab]
theorem threes3 (N : Nat) (a b : List (Vector Int 3)) (hl : a.length ≤ 9223372036854775807) (hN : a.length < N) : p_umbraref29_threes N a b = some (eqL eq3 a b) := by
  unfold p_umbraref29_threes
  simp only [letO_e, List.length_map]
  by_cases hab : a.length = b.length
  · rw [show ((a.length : Int) != (b.length : Int)) = false by simp [hab], cond_false]
    have := loopEq eq3 a b hab hl (p_umbraref29_threes_L1 N a b) ?_ ?_ ?_ N 0 (by omega) (by omega)
    · rw [show ((0 : Nat) : Int) = 0 from rfl] at this
      rw [this]
      exact sumIf
    · intro k s x y hs hx hy he
      conv => lhs; unfold p_umbraref29_threes_L1
      simp only [letO_e, List.length_map]
      rw [show decide (s < (a.length : Int)) = true by simpa using hs, cond_true, hx, hy]
      simp only [Option.bind_some, letO_e]
      rw [show eqV (fun a b => a == b) x y = true from he]; rfl
    · intro k s x y hs hx hy he
      conv => lhs; unfold p_umbraref29_threes_L1
      simp only [letO_e, List.length_map]
      rw [show decide (s < (a.length : Int)) = true by simpa using hs, cond_true, hx, hy]
      simp only [Option.bind_some, letO_e]
      rw [show eqV (fun a b => a == b) x y = false from he]; rfl
    · intro k s hs
      unfold p_umbraref29_threes_L1
      simp only [letO_e, List.length_map]
      rw [show decide (s < (a.length : Int)) = false by simpa using hs]; rfl
  · rw [show ((a.length : Int) != (b.length : Int)) = true by simp; omega, cond_true, eqL_len hab]
theorem alikeI (N : Nat) (a b : List Int) (hl : a.length ≤ 9223372036854775807) (hN : a.length < N) : p_film_alike_int N a b = some (eqL eqI a b) := by
  unfold p_film_alike_int
  simp only [letO_e, List.length_map]
  by_cases hab : a.length = b.length
  · rw [show ((a.length : Int) != (b.length : Int)) = false by simp [hab], cond_false]
    have := loopEq eqI a b hab hl (p_film_alike_int_L1 N (a.length : Int) a b) ?_ ?_ ?_ N 0 (by omega) (by omega)
    · rw [show ((0 : Nat) : Int) = 0 from rfl] at this
      rw [this]
      exact sumIf
    · intro k s x y hs hx hy he
      conv => lhs; unfold p_film_alike_int_L1
      rw [show decide (s < (a.length : Int)) = true by simpa using hs, cond_true, hx, hy]
      simp only [Option.bind_some]
      rw [show (x != y) = false by simpa [eqI] using he]; rfl
    · intro k s x y hs hx hy he
      conv => lhs; unfold p_film_alike_int_L1
      rw [show decide (s < (a.length : Int)) = true by simpa using hs, cond_true, hx, hy]
      simp only [Option.bind_some]
      rw [show (x != y) = true by simpa [eqI] using he]; rfl
    · intro k s hs
      unfold p_film_alike_int_L1
      rw [show decide (s < (a.length : Int)) = false by simpa using hs]; rfl
  · rw [show ((a.length : Int) != (b.length : Int)) = true by simp; omega, cond_true, eqL_len hab]
theorem intsI (N : Nat) (a b : List Int) (hl : a.length ≤ 9223372036854775807) (hN : a.length < N) : p_umbraref29_Ints N a b = some (eqL eqI a b) := by
  unfold p_umbraref29_Ints
  simp only [letO_e, List.length_map]
  by_cases hab : a.length = b.length
  · rw [show ((a.length : Int) != (b.length : Int)) = false by simp [hab], cond_false]
    have := loopEq eqI a b hab hl (p_umbraref29_Ints_L1 N a b) ?_ ?_ ?_ N 0 (by omega) (by omega)
    · rw [show ((0 : Nat) : Int) = 0 from rfl] at this
      rw [this]
      exact sumIf
    · intro k s x y hs hx hy he
      conv => lhs; unfold p_umbraref29_Ints_L1
      simp only [letO_e, List.length_map]
      rw [show decide (s < (a.length : Int)) = true by simpa using hs, cond_true, hx, hy]
      simp only [Option.bind_some]
      rw [show (x != y) = false by simpa [eqI] using he]; rfl
    · intro k s x y hs hx hy he
      conv => lhs; unfold p_umbraref29_Ints_L1
      simp only [letO_e, List.length_map]
      rw [show decide (s < (a.length : Int)) = true by simpa using hs, cond_true, hx, hy]
      simp only [Option.bind_some]
      rw [show (x != y) = true by simpa [eqI] using he]; rfl
    · intro k s hs
      unfold p_umbraref29_Ints_L1
      simp only [letO_e, List.length_map]
      rw [show decide (s < (a.length : Int)) = false by simpa using hs]; rfl
  · rw [show ((a.length : Int) != (b.length : Int)) = true by simp; omega, cond_true, eqL_len hab]

def lens (s : S_api_Image) : Nat := s.gBeauty.length + s.gAlpha.length + s.gDepth.length + s.gNormal.length + s.gAsset.length + s.gLabel.length
def small (s : S_api_Image) : Prop := s.gBeauty.length ≤ 9223372036854775807 ∧ s.gAlpha.length ≤ 9223372036854775807 ∧ s.gDepth.length ≤ 9223372036854775807 ∧ s.gNormal.length ≤ 9223372036854775807 ∧ s.gAsset.length ≤ 9223372036854775807 ∧ s.gLabel.length ≤ 9223372036854775807

def same (a b : S_api_Image) : Bool := a.gW == b.gW && a.gH == b.gH && eqL eq3 a.gBeauty b.gBeauty && eqL eqI a.gAlpha b.gAlpha && eqL eqI a.gDepth b.gDepth && eqL eq3 a.gNormal b.gNormal && eqL eqI a.gAsset b.gAsset && eqL eqI a.gLabel b.gLabel

theorem filmSame_e (N : Nat) (a b : S_api_Image) (hs : small a) (hN : lens a < N) : p_film_Same N a b = some (same a b) := by
  obtain ⟨h1, h2, h3, h4, h5, h6⟩ := hs
  unfold lens at hN
  unfold p_film_Same
  rw [alike3 N _ _ h1 (by omega), alikeI N _ _ h2 (by omega), alikeI N _ _ h3 (by omega), alike3 N _ _ h4 (by omega), alikeI N _ _ h5 (by omega), alikeI N _ _ h6 (by omega)]
  simp only [letO_e, Option.bind_some]
  unfold same
  cases (a.gW == b.gW) <;> cases (a.gH == b.gH) <;> cases (eqL eq3 a.gBeauty b.gBeauty) <;> cases (eqL eqI a.gAlpha b.gAlpha) <;> cases (eqL eqI a.gDepth b.gDepth) <;> cases (eqL eq3 a.gNormal b.gNormal) <;> cases (eqL eqI a.gAsset b.gAsset) <;> rfl
theorem refSame_e (N : Nat) (a b : S_api_Image) (hs : small a) (hN : lens a < N) : p_umbraref29_Same N a b = some (same a b) := by
  obtain ⟨h1, h2, h3, h4, h5, h6⟩ := hs
  unfold lens at hN
  unfold p_umbraref29_Same
  rw [threes3 N _ _ h1 (by omega), intsI N _ _ h2 (by omega), intsI N _ _ h3 (by omega), threes3 N _ _ h4 (by omega), intsI N _ _ h5 (by omega), intsI N _ _ h6 (by omega)]
  simp only [letO_e, Option.bind_some]
  unfold same
  cases (a.gW == b.gW) <;> cases (a.gH == b.gH) <;> cases (eqL eq3 a.gBeauty b.gBeauty) <;> cases (eqL eqI a.gAlpha b.gAlpha) <;> cases (eqL eqI a.gDepth b.gDepth) <;> cases (eqL eq3 a.gNormal b.gNormal) <;> cases (eqL eqI a.gAsset b.gAsset) <;> rfl
theorem same_refl (a : S_api_Image) : same a a = true := by
  have hI : ∀ x : Int, eqI x x = true := fun x => by simp [eqI]
  have h3 : ∀ x : Vector Int 3, eq3 x x = true := fun x => by unfold eq3 eqV; exact eqL_refl (fun y => by simp) _
  unfold same
  rw [eqL_refl h3, eqL_refl h3, eqL_refl hI, eqL_refl hI, eqL_refl hI, eqL_refl hI]
  simp
theorem worksK (k : Nat) : p_umbralaw29_works (k + 5) = some true := by kernel_rfl
theorem filmSameFn (a : S_api_Image) (oa : a.ok) (b : S_api_Image) (ob : b.ok) : Fn Try.prog 11 [a.enc, b.enc] (eB true) := by
  have hs : small a := by
    obtain ⟨_, _, h1, h2, h3, h4, h5, h6⟩ := oa
    have : maxLen = 9223372036854775807 := by decide
    exact ⟨(this ▸ h1.1), (this ▸ h2.1), (this ▸ h3.1), (this ▸ h4.1), (this ▸ h5.1), (this ▸ h6.1)⟩
  refine umbralaw29_FilmSame_ok (lens a + 5) a b true ?_
  unfold p_umbralaw29_FilmSame
  rw [filmSame_e _ a b hs (by omega), refSame_e _ a b hs (by omega), filmSame_e _ a a hs (by omega), worksK]
  simp [letO_e, same_refl]
end Go.UK
