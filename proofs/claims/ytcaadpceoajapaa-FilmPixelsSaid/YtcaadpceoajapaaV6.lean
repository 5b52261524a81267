/- A part of the proof: what the functions of the program compute. -/
import Derived.Test.YtcaadpceoajapaaV2
import Derived.Test.YtcaadpceoajapaaV5
namespace Go.UK
open Go Go.Proofs
set_option maxRecDepth 20000
set_option linter.all false

theorem wsz (N : Nat) {a : Int} (ha : in64 a) : p_wide_size N a = some (if a < 0 then -a else a, decide (a < 0)) := by
  obtain ⟨h1, h2⟩ := ha
  unfold p_wide_size
  by_cases h : a < 0
  · rw [dt h, cond_true, if_pos h]
    congr 2
    rw [U64_e, U64_e]; omega
  · rw [df h, cond_false, if_neg h, U64_id (by omega) (by omega)]

theorem sub64 {x y c : Int} (hx : 0 ≤ x) (hy : 0 ≤ y) (hy' : y ≤ 18446744073709551615) (hc : 0 ≤ c) (hc' : c ≤ 1) : p_Sub64 x y c = some ((x - y - c) % 18446744073709551616, if x < y + c then 1 else 0) := by
  unfold p_Sub64
  rw [dt hx, dt hy, dt hc, dt hc', dt hy']
  simp only [Bool.and_self, cond_true]
  by_cases h : x < y + c
  · rw [dt h, if_pos h]; rfl
  · rw [df h, if_neg h]; rfl

theorem wturned (N : Nat) {h l : Int} (hh : 0 ≤ h) (hh' : h < 18446744073709551616) (hl : 0 ≤ l) (hl' : l < 18446744073709551616) :
    ∃ h' l', p_wide_turned N h l = some (h', l') ∧ 0 ≤ h' ∧ h' < 18446744073709551616 ∧ 0 ≤ l' ∧ l' < 18446744073709551616 ∧ (h' * 18446744073709551616 + l' = 0 ∧ h * 18446744073709551616 + l = 0 ∨ h' * 18446744073709551616 + l' = 340282366920938463463374607431768211456 - (h * 18446744073709551616 + l)) := by
  unfold p_wide_turned
  rw [sub64 (by decide) hl (by omega) (by decide) (by decide)]
  simp only [Option.bind_some]
  have hc : 0 ≤ (if (0 : Int) < l + 0 then (1 : Int) else 0) ∧ (if (0 : Int) < l + 0 then (1 : Int) else 0) ≤ 1 := by split <;> omega
  rw [sub64 (by decide) hh (by omega) hc.1 hc.2]
  simp only [Option.bind_some]
  refine ⟨_, _, rfl, ?_⟩
  split <;> omega

abbrev wval (w : S_api_Wide) : Int := w.gHi * 18446744073709551616 + w.gLo
def wok (w : S_api_Wide) : Prop := in64 w.gHi ∧ 0 ≤ w.gLo ∧ w.gLo < 18446744073709551616

theorem wsigned (N : Nat) {h l : Int} (m : Bool) (hh : 0 ≤ h) (hl : 0 ≤ l) (hl' : l < 18446744073709551616) (hb : h * 18446744073709551616 + l ≤ 170141183460469231731687303715884105727) :
    ∃ w, p_wide_signed N h l m = some (w, true) ∧ wok w ∧ wval w = cond m (-(h * 18446744073709551616 + l)) (h * 18446744073709551616 + l) := by
  unfold p_wide_signed
  cases m with
  | false =>
    simp only [cond_false, Option.bind_some, letO_e]
    have hi : I64 h = h := I64_id (by omega) (by omega)
    rw [hi, df (show ¬ h < 0 by omega)]
    refine ⟨⟨h, l⟩, rfl, ⟨⟨by show _ ≤ h; omega, by show h ≤ _; omega⟩, hl, hl'⟩, rfl⟩
  | true =>
    obtain ⟨h', l', e, a1, a2, a3, a4, a5⟩ := wturned N (h := h) (l := l) hh (by omega) hl hl'
    rw [e]
    simp only [cond_true, Option.bind_some, letO_e]
    have hw : I64 h' * 18446744073709551616 + l' = -(h * 18446744073709551616 + l) := by rw [I64_e]; omega
    refine ⟨⟨I64 h', l'⟩, ?_, ⟨⟨I64_lo _, by have := I64_hi h'; show I64 h' ≤ _; omega⟩, a3, a4⟩, hw⟩
    congr 2
    by_cases hz : I64 h' < 0
    · rw [dt hz]; rfl
    · rw [df hz]
      have h0 : h' = 0 ∧ l' = 0 := by rw [I64_e] at hz hw; omega
      rw [h0.1, h0.2]
      rfl

theorem mul_abs {x y : Int} (hx : 0 ≤ x) (hx' : x ≤ 9223372036854775808) (hy : 0 ≤ y) (hy' : y ≤ 9223372036854775808) : 0 ≤ x * y ∧ x * y ≤ 85070591730234615865843651857942052864 := by
  have h1 := Int.mul_nonneg hx hy
  have h2 : x * y ≤ 9223372036854775808 * 9223372036854775808 := Int.mul_le_mul hx' hy' hy (by omega)
  omega

theorem wmulA (N : Nat) {a b : Int} (ha : in64 a) (hb : in64 b) : ∃ w, p_wide_Mul N a b = some w ∧ wok w ∧ wval w = a * b := by
  unfold p_wide_Mul
  rw [wsz N ha, wsz N hb]
  simp only [Option.bind_some]
  obtain ⟨a1, a2⟩ := ha
  obtain ⟨b1, b2⟩ := hb
  have key : ∀ (x y : Int) (m : Bool), 0 ≤ x → x ≤ 9223372036854775808 → 0 ≤ y → y ≤ 9223372036854775808 → (cond m (-(x * y)) (x * y) = a * b) →
      ∃ w, (Option.bind (p_math_bits_Mul64 N x y) fun r3 => Option.bind (p_wide_signed N r3.1 r3.2 m) fun r4 => some r4.1) = some w ∧ wok w ∧ wval w = a * b := by
    intro x y m hx hx' hy hy' he
    obtain ⟨m1, m2⟩ := mul_abs hx hx' hy hy'
    rw [mul64 N hx (by omega) hy (by omega)]
    simp only [Option.bind_some]
    obtain ⟨w, e1, e2, e3⟩ := wsigned N (h := x * y / 18446744073709551616) (l := x * y % 18446744073709551616) m (by omega) (by omega) (by omega) (by omega)
    rw [e1]
    refine ⟨w, rfl, e2, ?_⟩
    rw [e3, ← he]
    have : x * y / 18446744073709551616 * 18446744073709551616 + x * y % 18446744073709551616 = x * y := by omega
    rw [this]
  by_cases s1 : a < 0 <;> by_cases s2 : b < 0
  · rw [if_pos s1, if_pos s2, dt s1, dt s2]
    exact key (-a) (-b) _ (by omega) (by omega) (by omega) (by omega) (by show -a * -b = _; rw [Int.neg_mul_neg])
  · rw [if_pos s1, if_neg s2, dt s1, df s2]
    exact key (-a) b _ (by omega) (by omega) (by omega) (by omega) (by show -(-a * b) = _; rw [Int.neg_mul, Int.neg_neg])
  · rw [if_neg s1, if_pos s2, df s1, dt s2]
    exact key a (-b) _ (by omega) (by omega) (by omega) (by omega) (by show -(a * -b) = _; rw [Int.mul_neg, Int.neg_neg])
  · rw [if_neg s1, if_neg s2, df s1, df s2]
    exact key a b _ (by omega) (by omega) (by omega) (by omega) rfl

theorem fdivlo {h l : Int} (hl : 0 ≤ l) (hl' : l < 18446744073709551616) : (h * 18446744073709551616 + l) / 4294967296 = h * 4294967296 + l / 4294967296 := by omega

theorem wshrA (N : Nat) {w : S_api_Wide} (hw : wok w) : ∃ v, p_wide_Shr N w 32 = some v ∧ wok v ∧ wval v = wval w / 4294967296 := by
  obtain ⟨⟨h1, h2⟩, h3, h4⟩ := hw
  unfold p_wide_Shr
  have e1 : imax 32 0 = 32 := by decide
  simp only [e1, letO_e]
  rw [df (show ¬ (32 : Int) ≥ 64 by decide), cond_false, show ((32 : Int) == 0) = false by decide, cond_false]
  simp only [shrO_ok _ (show (0 : Int) ≤ 32 by decide), shlO_ok _ (show (0 : Int) ≤ I64 (64 - 32) by decide), Option.bind_some]
  rw [show I64 (64 - 32) = 32 by decide, shr32i, shr32u, shl32, bor_comm]
  have hb : bor .u64 (U64 w.gHi * 4294967296 % 18446744073709551616) (w.gLo / 4294967296) = U64 w.gHi * 4294967296 % 18446744073709551616 + w.gLo / 4294967296 := by
    refine bor_dis 32 (by omega) (by omega) (by omega) (by omega) (by decide) ?_
    have h5 := U64_lo w.gHi
    obtain ⟨X, hX⟩ := Int.eq_ofNat_of_zero_le h5
    rw [hX]
    exact ⟨X % 4294967296, by omega⟩
  rw [hb]
  refine ⟨_, rfl, ⟨⟨by show _ ≤ w.gHi / 4294967296; omega, by show w.gHi / 4294967296 ≤ _; omega⟩, by show 0 ≤ _ + _; omega, by show _ + _ < _; omega⟩, ?_⟩
  show w.gHi / 4294967296 * 18446744073709551616 + (U64 w.gHi * 4294967296 % 18446744073709551616 + w.gLo / 4294967296) = (w.gHi * 18446744073709551616 + w.gLo) / 4294967296
  rw [fdivlo h3 h4, U64_e]
  omega

theorem nearA (N : Nat) {w : S_api_Wide} (hw : wok w) : p_fix_near N w = some (S64 (wval w)) := by
  obtain ⟨⟨h1, h2⟩, h3, h4⟩ := hw
  unfold p_fix_near p_wide_Int
  simp only [letO_e, shr63i]
  by_cases hc : w.gHi = I64 w.gLo / 9223372036854775808
  · rw [show (w.gHi != I64 w.gLo / 9223372036854775808) = false by simp [bne, hc]]
    simp only [cond_false, Option.bind_some, cond_true]
    rw [S64_id]
    · congr 1
      show I64 w.gLo = w.gHi * 18446744073709551616 + w.gLo
      rw [hc]; simp only [I64_e]; omega
    · show in64 (w.gHi * 18446744073709551616 + w.gLo)
      rw [hc]; unfold in64; simp only [I64_e]; omega
  · rw [show (w.gHi != I64 w.gLo / 9223372036854775808) = true by simp [bne, hc]]
    simp only [cond_true, Option.bind_some, cond_false]
    rw [I64_e] at hc
    by_cases hs : w.gHi < 0
    · rw [dt hs, cond_true]
      unfold S64
      rw [if_pos (show w.gHi * 18446744073709551616 + w.gLo < _ by omega)]
    · rw [df hs, cond_false]
      unfold S64
      rw [if_neg (show ¬ w.gHi * 18446744073709551616 + w.gLo < _ by omega), if_pos (show _ < w.gHi * 18446744073709551616 + w.gLo by omega)]

theorem fixMul2 (k : Nat) {a b : Int} (ha : in64 a) (hb : in64 b) : p_fix_Mul (k + 3) [a, b] = some (S64 (a * b / 4294967296)) := by
  unfold p_fix_Mul
  have l2 : (([a, b] : List Int).length : Int) = 2 := rfl
  rw [p_fix_Mul_L1, letO_e, l2, dt (show (0 : Int) < 2 by decide), cond_true, ix0]
  simp only [Option.bind_some, beq_self_eq_true, cond_true]
  rw [show I64 (0 + 1) = 1 by decide, p_fix_Mul_L1, letO_e, l2, dt (show (1 : Int) < 2 by decide), cond_true, ix1]
  simp only [Option.bind_some]
  rw [show ((1 : Int) == 0) = false by decide, cond_false]
  obtain ⟨w, e1, e2, e3⟩ := wmulA (k + 3) ha hb
  obtain ⟨v, f1, f2, f3⟩ := wshrA (k + 3) e2
  rw [e1]
  simp only [Option.bind_some]
  rw [f1]
  simp only [Option.bind_some]
  rw [nearA _ f2]
  simp only [Option.bind_some]
  rw [show I64 (1 + 1) = 2 by decide, p_fix_Mul_L1, letO_e, l2, df (show ¬ (2 : Int) < 2 by decide), cond_false, f3, e3]
  rfl

theorem fixOfA (N : Nat) {a : Int} (ha : in64 a) : p_fix_Of N a = some (S64 (a * 4294967296)) := by
  unfold p_fix_Of
  obtain ⟨w, e1, e2, e3⟩ := wmulA N ha (b := 4294967296) ⟨by decide, by decide⟩
  rw [e1]
  simp only [Option.bind_some]
  rw [nearA _ e2, e3]
  rfl
end Go.UK
