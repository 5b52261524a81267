/- A part of the proof: what the functions of the program compute. -/
import Derived.Test.YtcaadpceoajapaaW2
namespace Go.UK
open Go Go.Proofs
set_option maxRecDepth 20000
set_option linter.all false

theorem p32 : (2 : Int) ^ 32 = 4294967296 := rfl

theorem cond_some {α : Type} {c : Bool} {x y : Option α} {p : Option α → Prop} (h : c = true → p x) (h' : c = false → p y) : p (cond c x y) := by cases c with | true => exact h rfl | false => exact h' rfl

theorem divL1 (N : Nat) (x13 x8 x6 : Int) (hy : 2147483648 ≤ shr .u64 x6 32) (hy' : shr .u64 x6 32 < 4294967296) (k : Nat) (q r : Int) (hr : 0 ≤ r) (hr' : r < 4294967296) :
    ∃ q', p_math_bits_Div64_L1 N x13 x8 x6 (k + 2) q r = some q' := by
  unfold p_math_bits_Div64_L1
  simp only [letO_e]
  refine cond_some (p := fun x => ∃ q', x = some q') (fun _ => ?_) (fun _ => ⟨_, rfl⟩)
  refine cond_some (p := fun x => ∃ q', x = some q') (fun _ => ⟨_, rfl⟩) (fun h => ?_)
  unfold p_math_bits_Div64_L1
  simp only [letO_e]
  refine cond_some (p := fun x => ∃ q', x = some q') (fun _ => ?_) (fun _ => ⟨_, rfl⟩)
  refine cond_some (p := fun x => ∃ q', x = some q') (fun _ => ⟨_, rfl⟩) (fun h2 => ?_)
  exfalso
  simp only [decide_eq_false_iff_not, U64_e] at h h2
  omega

theorem divL2 (N : Nat) (x8 x15 x6 : Int) (hy : 2147483648 ≤ shr .u64 x6 32) (hy' : shr .u64 x6 32 < 4294967296) (k : Nat) (q r : Int) (hr : 0 ≤ r) (hr' : r < 4294967296) :
    ∃ q', p_math_bits_Div64_L2 N x8 x15 x6 (k + 2) r q = some q' := by
  unfold p_math_bits_Div64_L2
  simp only [letO_e]
  refine cond_some (p := fun x => ∃ q', x = some q') (fun _ => ?_) (fun _ => ⟨_, rfl⟩)
  refine cond_some (p := fun x => ∃ q', x = some q') (fun _ => ⟨_, rfl⟩) (fun h => ?_)
  unfold p_math_bits_Div64_L2
  simp only [letO_e]
  refine cond_some (p := fun x => ∃ q', x = some q') (fun _ => ?_) (fun _ => ⟨_, rfl⟩)
  refine cond_some (p := fun x => ∃ q', x = some q') (fun _ => ⟨_, rfl⟩) (fun h2 => ?_)
  exfalso
  simp only [decide_eq_false_iff_not, U64_e] at h h2
  omega

theorem subMod {a y : Int} (ha : 0 ≤ a) (ha' : a < 18446744073709551616) (hy : 0 < y) (hy' : y < 4294967296) : U64 (a - U64 (U64 (Int.tdiv a y) * y)) = a % y := by
  have h1 : Int.tdiv a y = a / y := Int.tdiv_eq_ediv_of_nonneg ha
  have h2 := Int.mul_ediv_add_emod a y
  have h3 := Int.emod_nonneg a (Int.ne_of_gt hy)
  have h5 := Int.emod_lt_of_pos a hy
  have h4 : 0 ≤ a / y := Int.ediv_nonneg ha (Int.le_of_lt hy)
  have h6 : a / y ≤ a := Int.ediv_le_self _ ha
  rw [h1, U64_id h4 (by omega)]
  have h7 : a / y * y = a - a % y := by rw [Int.mul_comm]; omega
  rw [h7, U64_id (x := a - a % y) (by have := Int.mul_nonneg h4 (Int.le_of_lt hy); omega) (by omega)]
  rw [U64_id (by omega) (by omega)]
  omega

theorem div64_0 (N : Nat) {l y : Int} (hy : 0 < y) (hl : 0 ≤ l) (hl' : l < 18446744073709551616) : p_math_bits_Div64 N 0 l y = some (l / y, l % y) := by
  unfold p_math_bits_Div64
  have e1 : (y == 0) = false := by simp; omega
  have e2 : decide (y ≤ 0) = false := by simp; omega
  have e3 : decide (y = 0) = false := by simp; omega
  rw [e1, e2]
  simp only [cond_false, beq_self_eq_true, cond_true, letO_e]
  rw [reqF_ok _ e3, reqF_ok _ e3, Int.tdiv_eq_ediv_of_nonneg hl, Int.tmod_eq_emod_of_nonneg hl]
  rw [U64_id (Int.ediv_nonneg hl (Int.le_of_lt hy)) (by have := Int.ediv_le_self y hl; omega)]

theorem div64 (k : Nat) {h l y : Int} (hy : 0 < y) (hy' : y < 18446744073709551616) (hh : 0 ≤ h) (hh' : h < y) (hl : 0 ≤ l) (hl' : l < 18446744073709551616) :
    ∃ q r, p_math_bits_Div64 (k + 2) h l y = some (q, r) ∧ 0 ≤ q ∧ q < 18446744073709551616 := by
  by_cases h0 : h = 0
  · subst h0
    exact ⟨_, _, div64_0 _ hy hl hl', Int.ediv_nonneg hl (Int.le_of_lt hy), by have := Int.ediv_le_self y hl; omega⟩
  obtain ⟨n, hn, h1, h64, hlo, hhi⟩ := len64 (k + 2) hy hy'
  unfold p_math_bits_Div64
  have e1 : (y == 0) = false := by simp; omega
  have e2 : decide (y ≤ h) = false := by simp; omega
  have e3 : (h == 0) = false := by simp; omega
  rw [e1, e2, e3]
  simp only [cond_false]
  unfold p_math_bits_LeadingZeros64
  rw [hn]
  simp only [Option.bind_some]
  have e4 : I64 (64 - (n : Int)) = 64 - n := I64_id (by omega) (by omega)
  rw [e4]
  have e5 : U64 (64 - (n : Int)) = 64 - n := U64_id (by omega) (by omega)
  have e6 : decide (U64 (64 - (n : Int)) < 0) = false := by rw [e5]; simp; omega
  have e7 : decide (U64 (64 - U64 (64 - (n : Int))) < 0) = false := by have := U64_lo (64 - U64 (64 - (n : Int))); simp; omega
  simp only [letO_e]
  rw [reqF_ok _ e6, reqF_ok _ e6, reqF_ok _ e7, reqF_ok _ e6]
  -- the divisor, normalized
  have hz : shl .u64 y (U64 (64 - (n : Int))) = y * (2 : Int) ^ (64 - n) := by
    rw [e5, shl_e y (64 - (n : Int)) (64 - n) (by omega) (by omega)]
    refine Int.emod_eq_of_lt (Int.mul_nonneg (by omega) (Int.le_of_lt (Int.pow_pos (by decide)))) ?_
    calc y * (2 : Int) ^ (64 - n) < 2 ^ n * 2 ^ (64 - n) := Int.mul_lt_mul_of_pos_right hhi (Int.pow_pos (by decide))
      _ = 2 ^ 64 := by rw [← Int.pow_add]; congr 1; omega
  have hz1 : 9223372036854775808 ≤ y * (2 : Int) ^ (64 - n) := by
    calc (9223372036854775808 : Int) = 2 ^ (n - 1) * 2 ^ (64 - n) := by rw [← Int.pow_add, show n - 1 + (64 - n) = 63 by omega]; rfl
      _ ≤ _ := Int.mul_le_mul_of_nonneg_right hlo (Int.le_of_lt (Int.pow_pos (by decide)))
  have hz2 : y * (2 : Int) ^ (64 - n) < 18446744073709551616 := by
    rw [← hz]; unfold shl; exact U64_hi _
  rw [hz]
  generalize y * (2 : Int) ^ (64 - n) = Y at hz1 hz2 ⊢
  have hy1 : 2147483648 ≤ shr .u64 Y 32 := by rw [shr32u]; omega
  have hy2 : shr .u64 Y 32 < 4294967296 := by rw [shr32u]; omega
  have e8 : decide (shr .u64 Y 32 = 0) = false := by simp; omega
  rw [reqF_ok _ e8]
  generalize hX : bor .u64 (shl .u64 h (U64 (64 - (n : Int)))) (shr .u64 l (U64 (64 - U64 (64 - (n : Int))))) = X
  have hX1 : 0 ≤ X ∧ X < 18446744073709551616 := by rw [← hX]; exact bor_rng _ _
  rw [subMod hX1.1 hX1.2 (by omega) hy2]
  obtain ⟨q1, hq1⟩ := divL1 (k + 2) (shl .u64 l (U64 (64 - (n : Int)))) (band .u64 Y 4294967295) Y hy1 hy2 k (U64 (X.tdiv (shr .u64 Y 32))) (X % shr .u64 Y 32) (Int.emod_nonneg _ (by omega)) (by have := Int.emod_lt_of_pos X (show 0 < shr .u64 Y 32 by omega); omega)
  rw [hq1]
  simp only [Option.bind_some]
  rw [reqF_ok _ e8]
  generalize hZ : U64 (U64 (U64 (X * 4294967296) + shr .u64 (shl .u64 l (U64 (64 - (n : Int)))) 32) - U64 (q1 * Y)) = Z
  have hZ1 : 0 ≤ Z ∧ Z < 18446744073709551616 := by rw [← hZ]; exact ⟨U64_lo _, U64_hi _⟩
  rw [subMod hZ1.1 hZ1.2 (by omega) hy2]
  obtain ⟨q2, hq2⟩ := divL2 (k + 2) (band .u64 Y 4294967295) (band .u64 (shl .u64 l (U64 (64 - (n : Int)))) 4294967295) Y hy1 hy2 k (U64 (Z.tdiv (shr .u64 Y 32))) (Z % shr .u64 Y 32) (Int.emod_nonneg _ (by omega)) (by have := Int.emod_lt_of_pos Z (show 0 < shr .u64 Y 32 by omega); omega)
  rw [hq2]
  simp only [Option.bind_some]
  rw [reqF_ok _ e6]
  exact ⟨_, _, rfl, U64_lo _, U64_hi _⟩
end Go.UK
