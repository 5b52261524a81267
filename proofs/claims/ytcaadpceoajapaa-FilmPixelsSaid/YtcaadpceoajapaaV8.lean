/- A part of the proof: what the functions of the program compute. -/
import Derived.Test.YtcaadpceoajapaaV2
namespace Go.UK
open Go Go.Proofs
set_option maxRecDepth 20000
set_option maxHeartbeats 2000000
set_option linter.all false

theorem two_mod {H L1 L0 Y : Int} (hY : 0 < Y) : (((H * 4294967296 + L1) % Y) * 4294967296 + L0) % Y = (H * 18446744073709551616 + (L1 * 4294967296 + L0)) % Y := by
  have h := Int.mul_ediv_add_emod (H * 4294967296 + L1) Y
  generalize hq : (H * 4294967296 + L1) / Y = q at *
  generalize hr : (H * 4294967296 + L1) % Y = r at *
  have e : H * 18446744073709551616 + (L1 * 4294967296 + L0) = (r * 4294967296 + L0) + Y * (q * 4294967296) := by
    have : (H * 4294967296 + L1) * 4294967296 = (Y * q + r) * 4294967296 := by rw [h]
    grind
  rw [e, Int.add_mul_emod_self_left]
theorem emod_scale {a b c : Int} (hc : 0 < c) : (a * c) % (b * c) = (a % b) * c := by
  rw [Int.mul_comm a c, Int.mul_comm b c, Int.mul_emod_mul_of_pos _ _ hc, Int.mul_comm]
theorem div64r (k : Nat) {h l y : Int} (hy : 0 < y) (hy' : y < 18446744073709551616) (hh : 0 ≤ h) (hh' : h < y) (hl : 0 ≤ l) (hl' : l < 18446744073709551616) :
    p_math_bits_Div64 (k + 3) h l y = some ((h * 18446744073709551616 + l) / y, (h * 18446744073709551616 + l) % y) := by
  by_cases h0 : h = 0
  · subst h0
    rw [div64_0 _ hy hl hl', Int.zero_mul, Int.zero_add]
  obtain ⟨n, hn, h1, h64, hlo, hhi⟩ := len64 (k + 3) hy hy'
  unfold p_math_bits_Div64
  have e1 : (y == 0) = false := by simp; omega
  have e2 : decide (y ≤ h) = false := by simp; omega
  have e3 : (h == 0) = false := by simp; omega
  rw [e1, e2, e3]
  simp only [cond_false]
  unfold p_math_bits_LeadingZeros64
  rw [hn]
  simp only [Option.bind_some]
  have e4 : I64 (64 - (n : Int)) = 64 - n := I64_id (by omega) (by omega)
  rw [e4]
  have e5 : U64 (64 - (n : Int)) = 64 - n := U64_id (by omega) (by omega)
  have e5' : U64 (64 - (64 - (n : Int))) = n := by rw [U64_id (by omega) (by omega)]; omega
  have e6 : (0 : Int) ≤ 64 - (n : Int) := by omega
  have e7 : (0 : Int) ≤ (n : Int) := by omega
  simp only [letO_e, e5, e5']
  simp only [shlO_ok _ e6, shrO_ok _ e7, Option.bind_some]
  have pw : (2 : Int) ^ n * 2 ^ (64 - n) = 18446744073709551616 := by rw [← Int.pow_add, show n + (64 - n) = 64 by omega]; rfl
  have hpos : (0 : Int) < 2 ^ (64 - n) := Int.pow_pos (by decide)
  -- the divisor
  have hz2 : y * (2 : Int) ^ (64 - n) < 18446744073709551616 := by
    rw [← pw]; exact Int.mul_lt_mul_of_pos_right hhi hpos
  have hz0 : 0 ≤ y * (2 : Int) ^ (64 - n) := Int.mul_nonneg (by omega) (Int.le_of_lt hpos)
  have hz : shl .u64 y (64 - (n : Int)) = y * (2 : Int) ^ (64 - n) := by
    rw [shl_e y (64 - (n : Int)) (64 - n) (by omega) (by omega)]
    exact Int.emod_eq_of_lt hz0 hz2
  have hz1 : 9223372036854775808 ≤ y * (2 : Int) ^ (64 - n) := by
    calc (9223372036854775808 : Int) = 2 ^ (n - 1) * 2 ^ (64 - n) := by rw [← Int.pow_add, show n - 1 + (64 - n) = 63 by omega]; rfl
      _ ≤ _ := Int.mul_le_mul_of_nonneg_right hlo (Int.le_of_lt hpos)
  -- what is divided
  have hhY : h * (2 : Int) ^ (64 - n) < y * 2 ^ (64 - n) := Int.mul_lt_mul_of_pos_right hh' hpos
  have hh0 : 0 ≤ h * (2 : Int) ^ (64 - n) := Int.mul_nonneg hh (Int.le_of_lt hpos)
  have hsh : shl .u64 h (64 - (n : Int)) = h * (2 : Int) ^ (64 - n) := by
    rw [shl_e h (64 - (n : Int)) (64 - n) (by omega) (by omega)]
    exact Int.emod_eq_of_lt hh0 (by omega)
  have hsr : shr .u64 l (n : Int) = l / (2 : Int) ^ n := shr_e .u64 l n n rfl h64
  have hsl : shl .u64 l (64 - (n : Int)) = (l * (2 : Int) ^ (64 - n)) % 18446744073709551616 := shl_e l (64 - (n : Int)) (64 - n) (by omega) (by omega)
  have hd0 : 0 ≤ l / (2 : Int) ^ n := Int.ediv_nonneg hl (Int.le_of_lt (Int.pow_pos (by decide)))
  have hd1 : l / (2 : Int) ^ n < 2 ^ (64 - n) := by
    rw [Int.ediv_lt_iff_lt_mul (Int.pow_pos (by decide)), Int.mul_comm, pw]; exact hl'
  have hor : bor .u64 (h * (2 : Int) ^ (64 - n)) (l / (2 : Int) ^ n) = h * (2 : Int) ^ (64 - n) + l / (2 : Int) ^ n := by
    refine bor_dis (64 - n) hh0 (by omega) hd0 (by exact_mod_cast hd1) (by omega) ?_
    obtain ⟨A, rfl⟩ := Int.eq_ofNat_of_zero_le hh
    refine ⟨A, ?_⟩
    have : ((A : Int) * (2 : Int) ^ (64 - n)) = ((2 ^ (64 - n) * A : Nat) : Int) := by rw [Nat.mul_comm]; simp
    rw [this]; rfl
  have hfin := shift_split (h := h) (l := l) (64 - n) (by omega) hl hl'
  rw [show 64 - (64 - n) = n by omega] at hfin
  rw [hz, hsh, hsr, hsl, hor]
  have hHY : h * (2 : Int) ^ (64 - n) + l / (2 : Int) ^ n < y * 2 ^ (64 - n) := by
    have : (h + 1) * (2 : Int) ^ (64 - n) ≤ y * 2 ^ (64 - n) := Int.mul_le_mul_of_nonneg_right (by omega) (Int.le_of_lt hpos)
    rw [Int.add_mul, Int.one_mul] at this
    omega
  have hq : (h * 18446744073709551616 + l) / y = ((h * (2 : Int) ^ (64 - n) + l / (2 : Int) ^ n) * 18446744073709551616 + (l * (2 : Int) ^ (64 - n)) % 18446744073709551616) / (y * 2 ^ (64 - n)) := by
    rw [hfin, scale _ hy]
  have hr : ((h * (2 : Int) ^ (64 - n) + l / (2 : Int) ^ n) * 18446744073709551616 + (l * (2 : Int) ^ (64 - n)) % 18446744073709551616) % (y * 2 ^ (64 - n)) = ((h * 18446744073709551616 + l) % y) * 2 ^ (64 - n) := by
    rw [hfin, emod_scale hpos]
  rw [hq]
  have hH0 : 0 ≤ h * (2 : Int) ^ (64 - n) + l / (2 : Int) ^ n := by omega
  generalize h * (2 : Int) ^ (64 - n) + l / (2 : Int) ^ n = H at hHY hH0 hr ⊢
  have hL0 : 0 ≤ (l * (2 : Int) ^ (64 - n)) % 18446744073709551616 := Int.emod_nonneg _ (by decide)
  have hL1 : (l * (2 : Int) ^ (64 - n)) % 18446744073709551616 < 18446744073709551616 := Int.emod_lt_of_pos _ (by decide)
  generalize (l * (2 : Int) ^ (64 - n)) % 18446744073709551616 = L at hL0 hL1 hr ⊢
  generalize y * (2 : Int) ^ (64 - n) = Y at hz1 hz2 hHY hr ⊢
  clear hq hfin hor hsl hsr hsh hz hd1 hd0 hh0 hhY pw
  have s1 : shr .u64 Y 32 = Y / 4294967296 := shr32u Y
  have s2 : band .u64 Y 4294967295 = Y % 4294967296 := band32 (by omega) hz2
  have s3 : band .u64 L 4294967295 = L % 4294967296 := band32 hL0 hL1
  have s4 : shr .u64 L 32 = L / 4294967296 := shr32u L
  have R1 : Round H (L / 4294967296) Y (Y / 4294967296) (Y % 4294967296) := ⟨by omega, by omega, by omega, by omega, by omega, hH0, hHY, by omega, by omega⟩
  have e8 : shr .u64 Y 32 ≠ 0 := by rw [s1]; omega
  rw [quoO_u e8]
  simp only [Option.bind_some]
  have hY1 : 0 < Y / 4294967296 := by omega
  obtain ⟨g1, g2, g3⟩ := R1.start
  have t1 : Int.tdiv H (Y / 4294967296) = H / (Y / 4294967296) := Int.tdiv_eq_ediv_of_nonneg hH0
  have sm : U64 (H - U64 (U64 (H.tdiv (shr .u64 Y 32)) * shr .u64 Y 32)) = H % (Y / 4294967296) := by
    rw [s1]; exact subMod hH0 (by omega) hY1 (by omega)
  have st : U64 (H.tdiv (shr .u64 Y 32)) = H / (Y / 4294967296) := by
    rw [s1, t1]; exact U64_id (Int.ediv_nonneg hH0 (by omega)) (by omega)
  have rem1 := Int.emod_nonneg H (Int.ne_of_gt hY1)
  have rem2 := Int.emod_lt_of_pos H hY1
  obtain ⟨b1, b2⟩ := R1.q_lt
  rw [sm, st]
  rw [divL1q (k + 3) R1 L (band .u64 Y 4294967295) Y s1 s2 s4 (k + 3) _ _ g3 rem1 (by omega) g1 g2 (by have := R1.near; omega)]
  simp only [Option.bind_some]
  rw [quoO_u e8, s4]
  simp only [Option.bind_some]
  generalize hQ1 : (H * 4294967296 + L / 4294967296) / Y = Q1 at *
  have hdm := Int.mul_ediv_add_emod (H * 4294967296 + L / 4294967296) Y
  rw [hQ1] at hdm
  have hYp : 0 < Y := by omega
  have hm0 := Int.emod_nonneg (H * 4294967296 + L / 4294967296) (Int.ne_of_gt hYp)
  have hm1 := Int.emod_lt_of_pos (H * 4294967296 + L / 4294967296) hYp
  have hZ : U64 (U64 (U64 (H * 4294967296) + L / 4294967296) - U64 (Q1 * Y)) = (H * 4294967296 + L / 4294967296) % Y := by
    rw [Int.mul_comm Y Q1] at hdm
    simp only [U64_e]
    generalize Q1 * Y = A at *
    omega
  rw [hZ]
  generalize hZ' : (H * 4294967296 + L / 4294967296) % Y = Z at *
  have R2 : Round Z (L % 4294967296) Y (Y / 4294967296) (Y % 4294967296) := ⟨by omega, by omega, by omega, by omega, by omega, hm0, hm1, by omega, by omega⟩
  obtain ⟨f1, f2, f3⟩ := R2.start
  have t2 : Int.tdiv Z (Y / 4294967296) = Z / (Y / 4294967296) := Int.tdiv_eq_ediv_of_nonneg hm0
  have sm2 : U64 (Z - U64 (U64 (Z.tdiv (shr .u64 Y 32)) * shr .u64 Y 32)) = Z % (Y / 4294967296) := by
    rw [s1]; exact subMod hm0 (by omega) hY1 (by omega)
  have st2 : U64 (Z.tdiv (shr .u64 Y 32)) = Z / (Y / 4294967296) := by
    rw [s1, t2]; exact U64_id (Int.ediv_nonneg hm0 (by omega)) (by omega)
  have rem3 := Int.emod_nonneg Z (Int.ne_of_gt hY1)
  have rem4 := Int.emod_lt_of_pos Z hY1
  obtain ⟨c1, c2⟩ := R2.q_lt
  rw [sm2, st2, divL2q (k + 3) R2 (band .u64 Y 4294967295) (band .u64 L 4294967295) Y s1 s2 s3 (k + 3) _ _ f3 rem3 (by omega) f1 f2 (by have := R2.near; omega)]
  simp only [Option.bind_some]
  rw [shrO_ok _ e6]
  simp only [Option.bind_some]
  have hts := two_steps (H := H) (L1 := L / 4294967296) (L0 := L % 4294967296) hYp
  rw [hQ1, hZ', show L / 4294967296 * 4294967296 + L % 4294967296 = L by omega] at hts
  rw [U64_id (x := Q1 * 4294967296) (by omega) (by omega), U64_id (x := Q1 * 4294967296 + _) (by omega) (by omega), hts]
  congr 2
  have hm := two_mod (H := H) (L1 := L / 4294967296) (L0 := L % 4294967296) hYp
  rw [hZ', show L / 4294967296 * 4294967296 + L % 4294967296 = L by omega, hr] at hm
  have hdm2 := Int.mul_ediv_add_emod (Z * 4294967296 + L % 4294967296) Y
  rw [hm] at hdm2
  have hrr0 : 0 ≤ (h * 18446744073709551616 + l) % y := Int.emod_nonneg _ (Int.ne_of_gt hy)
  have hlt2 : (h * 18446744073709551616 + l) % y * 2 ^ (64 - n) < Y := by rw [← hm]; exact Int.emod_lt_of_pos _ hYp
  have hx : U64 (U64 (U64 (Z * 4294967296) + L % 4294967296) - U64 ((Z * 4294967296 + L % 4294967296) / Y * Y)) = (h * 18446744073709551616 + l) % y * 2 ^ (64 - n) := by
    have h0 : 0 ≤ (h * 18446744073709551616 + l) % y * 2 ^ (64 - n) := Int.mul_nonneg hrr0 (Int.le_of_lt hpos)
    rw [Int.mul_comm Y] at hdm2
    simp only [U64_e]
    generalize (Z * 4294967296 + L % 4294967296) / Y * Y = A at *
    generalize (h * 18446744073709551616 + l) % y * 2 ^ (64 - n) = B at *
    omega
  rw [s3, hx, shr_e .u64 _ (64 - (n : Int)) (64 - n) (by omega) (by show 64 - n ≤ 64; omega)]
  exact Int.mul_ediv_cancel _ (Int.ne_of_gt hpos)
end Go.UK
