/- A part of the proof: what the functions of the program compute. -/
import Derived.Test.YtcaadpceoajapaaZ6
namespace Go.UK
open Go Go.Proofs
set_option maxRecDepth 20000
set_option maxHeartbeats 2000000
set_option linter.all false
/-! nine numbers, put in order -/
theorem less_e (N : Nat) (a b : Int) : p_cmp_Less_int N a b = some (decide (a < b)) := by
  unfold p_cmp_Less_int p_cmp_isNaN_int
  rw [Option.bind_some, show (a != a) = false by simp]
  rfl
theorem insL2 (N : Nat) : ∀ (k : Nat) (A : List Int) (x : Int) (B C : List Int) (v : Vector Int 9), v.toList = A ++ x :: (B ++ C) → (A ++ B).Pairwise (· ≤ ·) → (∀ b ∈ B, x ≤ b) → A.length < k →
    ∃ v', p_slices_insertionSortOrdered_int_bdd_L2 N 0 k v (A.length : Int) = some v' ∧ ∃ S : List Int, v'.toList = S ++ C ∧ S.Pairwise (· ≤ ·) ∧ S.Perm (A ++ x :: B)
  | 0, A, _, _, _, _, _, _, _, h => by omega
  | k + 1, A, x, B, C, v, hv, hs, hb, hk => by
    have hlen : v.toList.length = 9 := by simp
    rw [p_slices_insertionSortOrdered_int_bdd_L2]
    rcases List.eq_nil_or_concat A with hA | ⟨A', y, hA⟩
    · subst hA
      rw [df (show ¬ ((([] : List Int).length : Int) > 0) by simp), cond_false, Option.bind_some, cond_false]
      exact ⟨v, rfl, x :: B, by simpa using hv, List.pairwise_cons.2 ⟨hb, by simpa using hs⟩, List.Perm.refl _⟩
    · rw [List.concat_eq_append] at hA
      subst hA
      have hL : (A' ++ [y]).length = A'.length + 1 := by simp
      rw [hL] at hk ⊢
      have hn : A'.length + 1 < 9 := by
        have := congrArg List.length hv
        rw [hlen] at this
        simp at this
        omega
      have hv' : v.toList = A' ++ y :: x :: (B ++ C) := by rw [hv]; simp
      have g1 : v.toList[((A'.length + 1 : Nat) : Int).toNat]? = some x := by
        rw [Int.toNat_natCast, hv', List.getElem?_append_right (by omega)]
        simp
      have e0 : I64 (((A'.length + 1 : Nat) : Int) - 1) = (A'.length : Int) := by rw [I64_id (by omega) (by omega)]; omega
      have g2 : v.toList[(A'.length : Int).toNat]? = some y := by
        rw [Int.toNat_natCast, hv', List.getElem?_append_right (Nat.le_refl _)]
        simp
      rw [dt (show ((A'.length + 1 : Nat) : Int) > 0 by omega), cond_true, inRO_ok (i := ((A'.length + 1 : Nat) : Int)) (by omega) (by omega), Option.bind_some, g1, Option.bind_some, e0, inRO_ok (i := (A'.length : Int)) (by omega) (by omega), Option.bind_some, g2, Option.bind_some, less_e, Option.bind_some, Option.bind_some]
      by_cases hxy : x < y
      · rw [dt hxy, cond_true, Option.bind_some, Option.bind_some, Option.bind_some, Option.bind_some, Option.bind_some, Option.bind_some, Option.bind_some]
        have e1 : (v.setIfInBounds ((A'.length + 1 : Nat) : Int).toNat y).toList = A' ++ y :: y :: (B ++ C) := by
          rw [Int.toNat_natCast, show (v.setIfInBounds (A'.length + 1) y).toList = v.toList.set (A'.length + 1) y by simp, hv', List.set_append_right _ _ (by omega)]
          simp
        have g3 : (v.setIfInBounds ((A'.length + 1 : Nat) : Int).toNat y).toList[(A'.length : Int).toNat]? = some y := by
          rw [e1, Int.toNat_natCast, List.getElem?_append_right (Nat.le_refl _)]
          simp
        rw [g3, Option.bind_some]
        have e2 : ((v.setIfInBounds ((A'.length + 1 : Nat) : Int).toNat y).setIfInBounds (A'.length : Int).toNat x).toList = A' ++ x :: ((y :: B) ++ C) := by
          rw [Int.toNat_natCast A'.length, show ((v.setIfInBounds ((A'.length + 1 : Nat) : Int).toNat y).setIfInBounds A'.length x).toList = (v.setIfInBounds ((A'.length + 1 : Nat) : Int).toNat y).toList.set A'.length x by simp, e1, List.set_append_right _ _ (Nat.le_refl _)]
          simp
        have hs' : (A' ++ y :: B).Pairwise (· ≤ ·) := by simpa using hs
        obtain ⟨v', h1, S, h2, h3, h4⟩ := insL2 N k A' x (y :: B) C _ e2 hs' (fun b hb' => by
          rcases List.mem_cons.1 hb' with e | e
          · subst e; omega
          · exact hb b e) (by omega)
        refine ⟨v', h1, S, h2, h3, h4.trans ?_⟩
        rw [List.append_assoc]
        exact List.Perm.append_left A' (List.Perm.swap y x B)
      · rw [df hxy, cond_false]
        refine ⟨v, rfl, (A' ++ [y]) ++ x :: B, by rw [hv]; simp, ?_, List.Perm.refl _⟩
        rw [List.pairwise_append] at hs ⊢
        obtain ⟨s1, s2, s3⟩ := hs
        refine ⟨s1, List.pairwise_cons.2 ⟨hb, s2⟩, fun a ha b hb' => ?_⟩
        rcases List.mem_cons.1 hb' with e | e
        · subst e
          have s1' := s1
          rw [List.pairwise_append] at s1'
          rcases List.mem_append.1 ha with h | h
          · have := s1'.2.2 a h y (by simp); omega
          · have : a = y := by simpa using h
            omega
        · exact s3 a ha b e
theorem insL1 (N : Nat) (hN : 10 < N) : ∀ (k i : Nat) (v : Vector Int 9), 1 ≤ i → i ≤ 9 → 9 - i < k → (v.toList.take i).Pairwise (· ≤ ·) →
    ∃ v', p_slices_insertionSortOrdered_int_bdd_L1 N 9 0 k v (i : Int) = some v' ∧ v'.toList.Pairwise (· ≤ ·) ∧ v'.toList.Perm v.toList
  | 0, i, _, _, _, h, _ => by omega
  | k + 1, i, v, h0, hi, hk, hs => by
    have hlen : v.toList.length = 9 := by simp
    rw [p_slices_insertionSortOrdered_int_bdd_L1]
    by_cases h : i < 9
    · rw [dt (show (i : Int) < 9 by omega), cond_true]
      have hd := List.drop_eq_getElem_cons (l := v.toList) (i := i) (by omega)
      have hv : v.toList = v.toList.take i ++ v.toList[i] :: ([] ++ v.toList.drop (i + 1)) := by
        rw [List.nil_append, ← hd, List.take_append_drop]
      obtain ⟨v', h1, S, h2, h3, h4⟩ := insL2 N N (v.toList.take i) v.toList[i] [] (v.toList.drop (i + 1)) v hv (by simpa using hs) (by simp) (by rw [List.length_take]; omega)
      have hl : (v.toList.take i).length = i := by rw [List.length_take]; omega
      rw [hl] at h1
      rw [h1, Option.bind_some, I64_s (by omega)]
      have hSl : S.length = i + 1 := by rw [h4.length_eq]; simp; omega
      obtain ⟨v'', g1, g2, g3⟩ := insL1 N hN k (i + 1) v' (by omega) (by omega) (by omega) (by rw [h2, ← hSl, List.take_left']; exact h3; rfl)
      refine ⟨v'', g1, g2, g3.trans ?_⟩
      rw [h2]
      refine (List.Perm.append_right _ h4).trans ?_
      rw [List.append_assoc]
      exact List.Perm.of_eq (by rw [List.cons_append]; exact hv.symm)
    · rw [df (show ¬ (i : Int) < 9 by omega), cond_false]
      exact ⟨v, rfl, by rw [← List.take_of_length_le (l := v.toList) (i := i) (by omega)]; exact hs, List.Perm.refl _⟩
theorem sort9 (N : Nat) (hN : 10 < N) (v : Vector Int 9) : ∃ v', p_slices_Sort_int_int_b N v = some v' ∧ v'.toList.Pairwise (· ≤ ·) ∧ v'.toList.Perm v.toList := by
  obtain ⟨v', h1, h2, h3⟩ := insL1 N hN N 1 v (by omega) (by omega) (by omega) (by
    have : (v.toList.take 1).length ≤ 1 := by rw [List.length_take]; omega
    match hq : v.toList.take 1 with
    | [] => exact List.Pairwise.nil
    | [a] => exact List.pairwise_singleton _ _
    | a :: b :: r => rw [hq] at this; simp at this)
  have e1 : p_math_bits_Len N (U64 (9 : Int)) = some 4 := by kernel_rfl
  have e2 : ∀ r : Int, p_slices_pdqsortOrdered_int_bddd N 0 9 r v = some v' := by
    intro r
    unfold p_slices_pdqsortOrdered_int_bddd
    obtain ⟨M, rfl⟩ : ∃ M, N = M + 1 := ⟨N - 1, by omega⟩
    rw [p_slices_pdqsortOrdered_int_bddd_L1, letO_e, show decide (I64 (9 - 0) ≤ 12) = true by decide, cond_true]
    unfold p_slices_insertionSortOrdered_int_bdd
    have : p_slices_insertionSortOrdered_int_bdd_L1 (M + 1) 9 0 (M + 1) v (I64 (0 + 1)) = some v' := h1
    rw [this]
    rfl
  refine ⟨v', ?_, h2, h3⟩
  unfold p_slices_Sort_int_int_b
  rw [e1, Option.bind_some, e2]
  rfl
end Go.UK
