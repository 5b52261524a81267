/- A part of the proof: what the functions of the program compute. -/
import Derived.Test.YtcaadpceoajapaaP5
import Derived.Test.YtcaadpceoajapaaV1
namespace Go.UK
open Go Go.Proofs
set_option maxRecDepth 20000
set_option linter.all false

theorem mul64 (N : Nat) {a b : Int} (ha : 0 ≤ a) (ha' : a < 18446744073709551616) (hb : 0 ≤ b) (hb' : b < 18446744073709551616) :
    p_math_bits_Mul64 N a b = some (a * b / 18446744073709551616, a * b % 18446744073709551616) := by
  unfold p_math_bits_Mul64
  simp only [letO_e, band32 ha ha', band32 hb hb', shr32u, band32 (U64_lo _) (U64_hi _)]
  simp only [U64_e]
  generalize hA1 : a / 4294967296 = A1
  generalize hA0 : a % 4294967296 = A0
  generalize hB1 : b / 4294967296 = B1
  generalize hB0 : b % 4294967296 = B0
  have ea : a = A1 * 4294967296 + A0 := by omega
  have eb : b = B1 * 4294967296 + B0 := by omega
  have hp : a * b = (A1 * B1) * 18446744073709551616 + (A1 * B0 + A0 * B1) * 4294967296 + A0 * B0 := by
    rw [ea, eb]; grind
  rw [hp]
  obtain ⟨x1, y1⟩ := mul_bd (a := A1) (b := B1) (by omega) (by omega) (by omega) (by omega)
  obtain ⟨x2, y2⟩ := mul_bd (a := A1) (b := B0) (by omega) (by omega) (by omega) (by omega)
  obtain ⟨x3, y3⟩ := mul_bd (a := A0) (b := B1) (by omega) (by omega) (by omega) (by omega)
  obtain ⟨x4, y4⟩ := mul_bd (a := A0) (b := B0) (by omega) (by omega) (by omega) (by omega)
  clear hp ea eb
  generalize A1 * B1 = p at *
  generalize A1 * B0 = q at *
  generalize A0 * B1 = r at *
  generalize A0 * B0 = s at *
  congr 2
  omega

/-! ### Len64 -/
theorem str_0_get (i : Nat) (h : i < 256) : ∃ b : UInt8, str_0.data.toList[i]? = some b ∧ b.toNat ≤ 8 ∧ i < 2 ^ b.toNat ∧ (0 < i → 1 ≤ b.toNat ∧ 2 ^ (b.toNat - 1) ≤ i) := by
  have key : ∀ i : Fin 256, (match str_0.data.toList[i.val]? with | some b => decide (b.toNat ≤ 8) && decide (i.val < 2 ^ b.toNat) && (decide (i.val = 0) || (decide (1 ≤ b.toNat) && decide (2 ^ (b.toNat - 1) ≤ i.val))) | none => false) = true := by decide
  have := key ⟨i, h⟩
  simp only at this
  split at this
  · rename_i b hb
    simp only [Bool.and_eq_true, Bool.or_eq_true, decide_eq_true_eq] at this
    exact ⟨b, hb, this.1.1, this.1.2, fun hi => by rcases this.2 with h | h; omega; exact h⟩
  · cases this

theorem len64 (N : Nat) {a : Int} (ha : 0 < a) (ha' : a < 18446744073709551616) :
    ∃ n : Nat, p_math_bits_Len64 N a = some (n : Int) ∧ 1 ≤ n ∧ n ≤ 64 ∧ (2 : Int) ^ (n - 1) ≤ a ∧ a < (2 : Int) ^ n := by
  obtain ⟨A, rfl⟩ := Int.eq_ofNat_of_zero_le (Int.le_of_lt ha)
  unfold p_math_bits_Len64
  simp only [letO_e, shr32u, shr16u, shr8u]
  -- the three steps
  obtain ⟨y1, n1, e1, h1, h1'⟩ : ∃ (y n : Nat), (cond (decide ((A : Int) ≥ 4294967296)) (some ((A : Int) / 4294967296, (32 : Int))) (some ((A : Int), 0))) = some ((y : Int), (n : Int)) ∧ y < 4294967296 ∧ (A / 2 ^ n = y ∧ 0 < y ∧ (n = 0 ∨ n = 32)) := by
    by_cases hc : (A : Int) ≥ 4294967296
    · exact ⟨A / 4294967296, 32, by simp [hc], by omega, rfl, by omega, .inr rfl⟩
    · exact ⟨A, 0, by simp [hc], by omega, by simp, by omega, .inl rfl⟩
  rw [e1]
  simp only [Option.bind_some]
  obtain ⟨y2, n2, e2, h2, h2'⟩ : ∃ (y n : Nat), (cond (decide ((y1 : Int) ≥ 65536)) (some ((y1 : Int) / 65536, I64 ((n1 : Int) + 16))) (some ((y1 : Int), (n1 : Int)))) = some ((y : Int), (n : Int)) ∧ y < 65536 ∧ (A / 2 ^ n = y ∧ 0 < y ∧ n ≤ 48) := by
    by_cases hc : (y1 : Int) ≥ 65536
    · refine ⟨y1 / 65536, n1 + 16, ?_, by omega, ?_, by omega, by omega⟩
      · simp only [hc, decide_true, cond_true]
        rw [I64_id (by omega) (by omega)]
        rfl
      · rw [Nat.pow_add, ← Nat.div_div_eq_div_mul, h1'.1]
    · exact ⟨y1, n1, by simp [hc], by omega, h1'.1, h1'.2.1, by omega⟩
  rw [e2]
  simp only [Option.bind_some]
  obtain ⟨y3, n3, e3, h3, h3'⟩ : ∃ (y n : Nat), (cond (decide ((y2 : Int) ≥ 256)) (some ((y2 : Int) / 256, I64 ((n2 : Int) + 8))) (some ((y2 : Int), (n2 : Int)))) = some ((y : Int), (n : Int)) ∧ y < 256 ∧ (A / 2 ^ n = y ∧ 0 < y ∧ n ≤ 56) := by
    by_cases hc : (y2 : Int) ≥ 256
    · refine ⟨y2 / 256, n2 + 8, ?_, by omega, ?_, by omega, by omega⟩
      · simp only [hc, decide_true, cond_true]
        rw [I64_id (by omega) (by omega)]
        rfl
      · rw [Nat.pow_add, ← Nat.div_div_eq_div_mul, h2'.1]
    · exact ⟨y2, n2, by simp [hc], by omega, h2'.1, h2'.2.1, by omega⟩
  rw [e3]
  simp only [Option.bind_some]
  obtain ⟨b, g1, g2, g3, g4⟩ := str_0_get y3 h3
  obtain ⟨g5, g6⟩ := g4 h3'.2.1
  have hidx : idx str_0.data.toList (U8 (y3 : Int)) = some b := by
    have : U8 (y3 : Int) = (y3 : Int) := by
      rw [show U8 (y3 : Int) = (y3 : Int) % 256 from IntKind.wrap_u8 _]
      omega
    rw [this]
    unfold idx
    simp [g1]
  rw [hidx]
  simp only [Option.bind_some]
  refine ⟨n3 + b.toNat, ?_, by omega, by omega, ?_, ?_⟩
  · rw [I64_id (x := (b.toNat : Int)) (by omega) (by omega), I64_id (by omega) (by omega)]
    rfl
  · have e : n3 + b.toNat - 1 = n3 + (b.toNat - 1) := by omega
    have : 2 ^ (n3 + b.toNat - 1) ≤ A := by
      rw [e, Nat.pow_add]
      calc 2 ^ n3 * 2 ^ (b.toNat - 1) ≤ 2 ^ n3 * y3 := Nat.mul_le_mul_left _ g6
        _ = 2 ^ n3 * (A / 2 ^ n3) := by rw [h3'.1]
        _ ≤ A := Nat.mul_div_le A _
    exact_mod_cast this
  · have : A < 2 ^ (n3 + b.toNat) := by
      rw [Nat.pow_add]
      have := Nat.lt_mul_div_succ A (Nat.two_pow_pos n3)
      rw [h3'.1] at this
      calc A < 2 ^ n3 * (y3 + 1) := this
        _ ≤ 2 ^ n3 * 2 ^ b.toNat := Nat.mul_le_mul_left _ (by omega)
    exact_mod_cast this
theorem div64_0 (N : Nat) {l y : Int} (hy : 0 < y) (hl : 0 ≤ l) (hl' : l < 18446744073709551616) : p_math_bits_Div64 N 0 l y = some (l / y, l % y) := by
  unfold p_math_bits_Div64
  have e1 : (y == 0) = false := by simp; omega
  have e2 : decide (y ≤ 0) = false := by simp; omega
  rw [e1, e2]
  simp only [cond_false, beq_self_eq_true, cond_true, letO_e]
  rw [quoO_ok _ (by omega), remO_ok _ (by omega)]
  simp only [Option.bind_some]
  rw [show IntKind.u64.wrap (l.tdiv y) = U64 (l.tdiv y) from rfl, Int.tdiv_eq_ediv_of_nonneg hl, Int.tmod_eq_emod_of_nonneg hl]
  rw [U64_id (Int.ediv_nonneg hl (Int.le_of_lt hy)) (by have := Int.ediv_le_self y hl; omega)]



/-- the first loop ends at the digit -/
theorem divL1q (N : Nat) {H D Y y1 y0 : Int} (R : Round H D Y y1 y0) (x13 x8 x6 : Int) (h6 : shr .u64 x6 32 = y1) (h8 : x8 = y0) (h13 : shr .u64 x13 32 = D) (k : Nat) (q r : Int) (hq : q * y1 + r = H) (hr : 0 ≤ r) (hr' : r < 4294967296) (hge : (H * 4294967296 + D) / Y ≤ q) (hle : q ≤ 4294967297) (hk : q - (H * 4294967296 + D) / Y < k) :
    p_math_bits_Div64_L1 N x13 x8 x6 k q r = some ((H * 4294967296 + D) / Y) := by
  induction k generalizing q r with
  | zero => simp at hk; omega
  | succ k ih =>
    obtain ⟨b1, b2⟩ := R.q_lt
    have ht := R.test hq
    unfold p_math_bits_Div64_L1
    simp only [letO_e]
    rw [h6, h8, h13]
    have hy1 := R.y1l; have hy1' := R.y1h; have hy0 := R.y0l; have hy0' := R.y0h; have hD := R.Dl; have hD' := R.Dh
    have e1 : U64 (U64 (4294967296 * r) + D) = 4294967296 * r + D := by rw [U64_id (x := 4294967296 * r) (by omega) (by omega), U64_id (by omega) (by omega)]
    rw [e1]
    have htest : cond (decide (q ≥ 4294967296)) true (decide (U64 (q * y0) > 4294967296 * r + D)) = decide ((H * 4294967296 + D) / Y < q) := by
      by_cases hc : q ≥ 4294967296
      · rw [show decide (q ≥ 4294967296) = true by simpa using hc, cond_true]
        symm; simp; omega
      · rw [show decide (q ≥ 4294967296) = false by simpa using hc, cond_false]
        obtain ⟨m1, m2⟩ := mul_bd (a := q) (b := y0) (by omega) (by omega) hy0 hy0'
        rw [U64_id m1 (by omega)]
        simp only [decide_eq_decide]
        exact ht
    rw [htest]
    by_cases hc : (H * 4294967296 + D) / Y < q
    · rw [show decide ((H * 4294967296 + D) / Y < q) = true by simpa using hc, cond_true]
      have e2 : U64 (r + y1) = r + y1 := U64_id (by omega) (by omega)
      have e3 : U64 (q - 1) = q - 1 := U64_id (by omega) (by omega)
      rw [e2, e3]
      have hq' : (q - 1) * y1 + (r + y1) = H := by rw [← hq]; grind
      by_cases hx : r + y1 ≥ 4294967296
      · rw [show decide (r + y1 ≥ 4294967296) = true by simpa using hx, cond_true]
        have ht' := R.test hq'
        have hnot : ¬ ((q - 1) * y0 > 4294967296 * (r + y1) + D) := by
          have : (q - 1) * y0 ≤ 4294967296 * 4294967295 := Int.mul_le_mul (by omega) (by omega) hy0 (by omega)
          omega
        have : ¬ (H * 4294967296 + D) / Y < q - 1 := fun h' => hnot (ht'.2 h')
        congr 1; omega
      · rw [show decide (r + y1 ≥ 4294967296) = false by simpa using hx, cond_false]
        have hh := ih (q - 1) (r + y1) hq' (by omega) (by omega) (by omega) (by omega) (by omega)
        rw [h8] at hh
        exact hh
    · rw [show decide ((H * 4294967296 + D) / Y < q) = false by simpa using hc, cond_false]
      congr 1; omega
theorem divL2q (N : Nat) {H D Y y1 y0 : Int} (R : Round H D Y y1 y0) (x8 x15 x6 : Int) (h6 : shr .u64 x6 32 = y1) (h8 : x8 = y0) (h15 : x15 = D) (k : Nat) (q r : Int) (hq : q * y1 + r = H) (hr : 0 ≤ r) (hr' : r < 4294967296) (hge : (H * 4294967296 + D) / Y ≤ q) (hle : q ≤ 4294967297) (hk : q - (H * 4294967296 + D) / Y < k) :
    p_math_bits_Div64_L2 N x15 x8 x6 k r q = some ((H * 4294967296 + D) / Y) := by
  induction k generalizing q r with
  | zero => simp at hk; omega
  | succ k ih =>
    obtain ⟨b1, b2⟩ := R.q_lt
    have ht := R.test hq
    unfold p_math_bits_Div64_L2
    simp only [letO_e]
    rw [h6, h8, h15]
    have hy1 := R.y1l; have hy1' := R.y1h; have hy0 := R.y0l; have hy0' := R.y0h; have hD := R.Dl; have hD' := R.Dh
    have e1 : U64 (U64 (4294967296 * r) + D) = 4294967296 * r + D := by rw [U64_id (x := 4294967296 * r) (by omega) (by omega), U64_id (by omega) (by omega)]
    rw [e1]
    have htest : cond (decide (q ≥ 4294967296)) true (decide (U64 (q * y0) > 4294967296 * r + D)) = decide ((H * 4294967296 + D) / Y < q) := by
      by_cases hc : q ≥ 4294967296
      · rw [show decide (q ≥ 4294967296) = true by simpa using hc, cond_true]
        symm; simp; omega
      · rw [show decide (q ≥ 4294967296) = false by simpa using hc, cond_false]
        obtain ⟨m1, m2⟩ := mul_bd (a := q) (b := y0) (by omega) (by omega) hy0 hy0'
        rw [U64_id m1 (by omega)]
        simp only [decide_eq_decide]
        exact ht
    rw [htest]
    by_cases hc : (H * 4294967296 + D) / Y < q
    · rw [show decide ((H * 4294967296 + D) / Y < q) = true by simpa using hc, cond_true]
      have e2 : U64 (r + y1) = r + y1 := U64_id (by omega) (by omega)
      have e3 : U64 (q - 1) = q - 1 := U64_id (by omega) (by omega)
      rw [e2, e3]
      have hq' : (q - 1) * y1 + (r + y1) = H := by rw [← hq]; grind
      by_cases hx : r + y1 ≥ 4294967296
      · rw [show decide (r + y1 ≥ 4294967296) = true by simpa using hx, cond_true]
        have ht' := R.test hq'
        have hnot : ¬ ((q - 1) * y0 > 4294967296 * (r + y1) + D) := by
          have : (q - 1) * y0 ≤ 4294967296 * 4294967295 := Int.mul_le_mul (by omega) (by omega) hy0 (by omega)
          omega
        have : ¬ (H * 4294967296 + D) / Y < q - 1 := fun h' => hnot (ht'.2 h')
        congr 1; omega
      · rw [show decide (r + y1 ≥ 4294967296) = false by simpa using hx, cond_false]
        have hh := ih (q - 1) (r + y1) hq' (by omega) (by omega) (by omega) (by omega) (by omega)
        rw [h8, h15] at hh
        exact hh
    · rw [show decide ((H * 4294967296 + D) / Y < q) = false by simpa using hc, cond_false]
      congr 1; omega


theorem div64q (k : Nat) {h l y : Int} (hy : 0 < y) (hy' : y < 18446744073709551616) (hh : 0 ≤ h) (hh' : h < y) (hl : 0 ≤ l) (hl' : l < 18446744073709551616) :
    ∃ r, p_math_bits_Div64 (k + 3) h l y = some ((h * 18446744073709551616 + l) / y, r) := by
  by_cases h0 : h = 0
  · subst h0
    exact ⟨l % y, by rw [div64_0 _ hy hl hl', Int.zero_mul, Int.zero_add]⟩
  obtain ⟨n, hn, h1, h64, hlo, hhi⟩ := len64 (k + 3) hy hy'
  unfold p_math_bits_Div64
  have e1 : (y == 0) = false := by simp; omega
  have e2 : decide (y ≤ h) = false := by simp; omega
  have e3 : (h == 0) = false := by simp; omega
  rw [e1, e2, e3]
  simp only [cond_false]
  unfold p_math_bits_LeadingZeros64
  rw [hn]
  simp only [Option.bind_some]
  have e4 : I64 (64 - (n : Int)) = 64 - n := I64_id (by omega) (by omega)
  rw [e4]
  have e5 : U64 (64 - (n : Int)) = 64 - n := U64_id (by omega) (by omega)
  have e5' : U64 (64 - (64 - (n : Int))) = n := by rw [U64_id (by omega) (by omega)]; omega
  have e6 : (0 : Int) ≤ 64 - (n : Int) := by omega
  have e7 : (0 : Int) ≤ (n : Int) := by omega
  simp only [letO_e, e5, e5']
  simp only [shlO_ok _ e6, shrO_ok _ e7, Option.bind_some]
  have pw : (2 : Int) ^ n * 2 ^ (64 - n) = 18446744073709551616 := by rw [← Int.pow_add, show n + (64 - n) = 64 by omega]; rfl
  have hpos : (0 : Int) < 2 ^ (64 - n) := Int.pow_pos (by decide)
  -- the divisor
  have hz2 : y * (2 : Int) ^ (64 - n) < 18446744073709551616 := by
    rw [← pw]; exact Int.mul_lt_mul_of_pos_right hhi hpos
  have hz0 : 0 ≤ y * (2 : Int) ^ (64 - n) := Int.mul_nonneg (by omega) (Int.le_of_lt hpos)
  have hz : shl .u64 y (64 - (n : Int)) = y * (2 : Int) ^ (64 - n) := by
    rw [shl_e y (64 - (n : Int)) (64 - n) (by omega) (by omega)]
    exact Int.emod_eq_of_lt hz0 hz2
  have hz1 : 9223372036854775808 ≤ y * (2 : Int) ^ (64 - n) := by
    calc (9223372036854775808 : Int) = 2 ^ (n - 1) * 2 ^ (64 - n) := by rw [← Int.pow_add, show n - 1 + (64 - n) = 63 by omega]; rfl
      _ ≤ _ := Int.mul_le_mul_of_nonneg_right hlo (Int.le_of_lt hpos)
  -- what is divided
  have hhY : h * (2 : Int) ^ (64 - n) < y * 2 ^ (64 - n) := Int.mul_lt_mul_of_pos_right hh' hpos
  have hh0 : 0 ≤ h * (2 : Int) ^ (64 - n) := Int.mul_nonneg hh (Int.le_of_lt hpos)
  have hsh : shl .u64 h (64 - (n : Int)) = h * (2 : Int) ^ (64 - n) := by
    rw [shl_e h (64 - (n : Int)) (64 - n) (by omega) (by omega)]
    exact Int.emod_eq_of_lt hh0 (by omega)
  have hsr : shr .u64 l (n : Int) = l / (2 : Int) ^ n := shr_e .u64 l n n rfl h64
  have hsl : shl .u64 l (64 - (n : Int)) = (l * (2 : Int) ^ (64 - n)) % 18446744073709551616 := shl_e l (64 - (n : Int)) (64 - n) (by omega) (by omega)
  have hd0 : 0 ≤ l / (2 : Int) ^ n := Int.ediv_nonneg hl (Int.le_of_lt (Int.pow_pos (by decide)))
  have hd1 : l / (2 : Int) ^ n < 2 ^ (64 - n) := by
    rw [Int.ediv_lt_iff_lt_mul (Int.pow_pos (by decide)), Int.mul_comm, pw]; exact hl'
  have hor : bor .u64 (h * (2 : Int) ^ (64 - n)) (l / (2 : Int) ^ n) = h * (2 : Int) ^ (64 - n) + l / (2 : Int) ^ n := by
    refine bor_dis (64 - n) hh0 (by omega) hd0 (by exact_mod_cast hd1) (by omega) ?_
    obtain ⟨A, rfl⟩ := Int.eq_ofNat_of_zero_le hh
    refine ⟨A, ?_⟩
    have : ((A : Int) * (2 : Int) ^ (64 - n)) = ((2 ^ (64 - n) * A : Nat) : Int) := by rw [Nat.mul_comm]; simp
    rw [this]; rfl
  have hfin := shift_split (h := h) (l := l) (64 - n) (by omega) hl hl'
  rw [show 64 - (64 - n) = n by omega] at hfin
  rw [hz, hsh, hsr, hsl, hor]
  have hHY : h * (2 : Int) ^ (64 - n) + l / (2 : Int) ^ n < y * 2 ^ (64 - n) := by
    have : (h + 1) * (2 : Int) ^ (64 - n) ≤ y * 2 ^ (64 - n) := Int.mul_le_mul_of_nonneg_right (by omega) (Int.le_of_lt hpos)
    rw [Int.add_mul, Int.one_mul] at this
    omega
  have hq : (h * 18446744073709551616 + l) / y = ((h * (2 : Int) ^ (64 - n) + l / (2 : Int) ^ n) * 18446744073709551616 + (l * (2 : Int) ^ (64 - n)) % 18446744073709551616) / (y * 2 ^ (64 - n)) := by
    rw [hfin, scale _ hy]
  rw [hq]
  have hH0 : 0 ≤ h * (2 : Int) ^ (64 - n) + l / (2 : Int) ^ n := by omega
  generalize h * (2 : Int) ^ (64 - n) + l / (2 : Int) ^ n = H at hHY hH0 ⊢
  have hL0 : 0 ≤ (l * (2 : Int) ^ (64 - n)) % 18446744073709551616 := Int.emod_nonneg _ (by decide)
  have hL1 : (l * (2 : Int) ^ (64 - n)) % 18446744073709551616 < 18446744073709551616 := Int.emod_lt_of_pos _ (by decide)
  generalize (l * (2 : Int) ^ (64 - n)) % 18446744073709551616 = L at hL0 hL1 ⊢
  generalize y * (2 : Int) ^ (64 - n) = Y at hz1 hz2 hHY ⊢
  clear hq hfin hor hsl hsr hsh hz hd1 hd0 hh0 hhY hpos pw
  have s1 : shr .u64 Y 32 = Y / 4294967296 := shr32u Y
  have s2 : band .u64 Y 4294967295 = Y % 4294967296 := band32 (by omega) hz2
  have s3 : band .u64 L 4294967295 = L % 4294967296 := band32 hL0 hL1
  have s4 : shr .u64 L 32 = L / 4294967296 := shr32u L
  have R1 : Round H (L / 4294967296) Y (Y / 4294967296) (Y % 4294967296) := ⟨by omega, by omega, by omega, by omega, by omega, hH0, hHY, by omega, by omega⟩
  have e8 : shr .u64 Y 32 ≠ 0 := by rw [s1]; omega
  rw [quoO_u e8]
  simp only [Option.bind_some]
  have hY1 : 0 < Y / 4294967296 := by omega
  obtain ⟨g1, g2, g3⟩ := R1.start
  have t1 : Int.tdiv H (Y / 4294967296) = H / (Y / 4294967296) := Int.tdiv_eq_ediv_of_nonneg hH0
  have sm : U64 (H - U64 (U64 (H.tdiv (shr .u64 Y 32)) * shr .u64 Y 32)) = H % (Y / 4294967296) := by
    rw [s1]; exact subMod hH0 (by omega) hY1 (by omega)
  have st : U64 (H.tdiv (shr .u64 Y 32)) = H / (Y / 4294967296) := by
    rw [s1, t1]; exact U64_id (Int.ediv_nonneg hH0 (by omega)) (by omega)
  have rem1 := Int.emod_nonneg H (Int.ne_of_gt hY1)
  have rem2 := Int.emod_lt_of_pos H hY1
  obtain ⟨b1, b2⟩ := R1.q_lt
  rw [sm, st]
  rw [divL1q (k + 3) R1 L (band .u64 Y 4294967295) Y s1 s2 s4 (k + 3) _ _ g3 rem1 (by omega) g1 g2 (by have := R1.near; omega)]
  simp only [Option.bind_some]
  rw [quoO_u e8, s4]
  simp only [Option.bind_some]
  generalize hQ1 : (H * 4294967296 + L / 4294967296) / Y = Q1 at *
  have hdm := Int.mul_ediv_add_emod (H * 4294967296 + L / 4294967296) Y
  rw [hQ1] at hdm
  have hYp : 0 < Y := by omega
  have hm0 := Int.emod_nonneg (H * 4294967296 + L / 4294967296) (Int.ne_of_gt hYp)
  have hm1 := Int.emod_lt_of_pos (H * 4294967296 + L / 4294967296) hYp
  have hZ : U64 (U64 (U64 (H * 4294967296) + L / 4294967296) - U64 (Q1 * Y)) = (H * 4294967296 + L / 4294967296) % Y := by
    rw [Int.mul_comm Y Q1] at hdm
    simp only [U64_e]
    generalize Q1 * Y = A at *
    omega
  rw [hZ]
  generalize hZ' : (H * 4294967296 + L / 4294967296) % Y = Z at *
  have R2 : Round Z (L % 4294967296) Y (Y / 4294967296) (Y % 4294967296) := ⟨by omega, by omega, by omega, by omega, by omega, hm0, hm1, by omega, by omega⟩
  obtain ⟨f1, f2, f3⟩ := R2.start
  have t2 : Int.tdiv Z (Y / 4294967296) = Z / (Y / 4294967296) := Int.tdiv_eq_ediv_of_nonneg hm0
  have sm2 : U64 (Z - U64 (U64 (Z.tdiv (shr .u64 Y 32)) * shr .u64 Y 32)) = Z % (Y / 4294967296) := by
    rw [s1]; exact subMod hm0 (by omega) hY1 (by omega)
  have st2 : U64 (Z.tdiv (shr .u64 Y 32)) = Z / (Y / 4294967296) := by
    rw [s1, t2]; exact U64_id (Int.ediv_nonneg hm0 (by omega)) (by omega)
  have rem3 := Int.emod_nonneg Z (Int.ne_of_gt hY1)
  have rem4 := Int.emod_lt_of_pos Z hY1
  obtain ⟨c1, c2⟩ := R2.q_lt
  rw [sm2, st2, divL2q (k + 3) R2 (band .u64 Y 4294967295) (band .u64 L 4294967295) Y s1 s2 s3 (k + 3) _ _ f3 rem3 (by omega) f1 f2 (by have := R2.near; omega)]
  simp only [Option.bind_some]
  rw [shrO_ok _ e6]
  simp only [Option.bind_some]
  have hts := two_steps (H := H) (L1 := L / 4294967296) (L0 := L % 4294967296) hYp
  rw [hQ1, hZ', show L / 4294967296 * 4294967296 + L % 4294967296 = L by omega] at hts
  rw [U64_id (x := Q1 * 4294967296) (by omega) (by omega), U64_id (x := Q1 * 4294967296 + _) (by omega) (by omega), hts]
  exact ⟨_, rfl⟩
end Go.UK
