/- A part of the proof: what the functions of the program compute. -/
import Derived.Test.YtlalbhcgnnbbmaaDoorLib11
import Derived.Laws.Bits64
import Derived.Laws.BitsLemmas
namespace Go.UK
open Go
/-! the words of the pure functions, in arithmetic -/
theorem U64_e (x : Int) : U64 x = x % 18446744073709551616 := IntKind.wrap_u64 x
theorem I64_e (x : Int) : I64 x = (x + 9223372036854775808) % 18446744073709551616 - 9223372036854775808 := IntKind.wrap_i64 x
theorem U64_lo (x : Int) : 0 ≤ U64 x := by rw [U64_e]; omega
theorem U64_hi (x : Int) : U64 x < 18446744073709551616 := by rw [U64_e]; omega
theorem I64_lo (x : Int) : -9223372036854775808 ≤ I64 x := by rw [I64_e]; omega
theorem I64_hi (x : Int) : I64 x < 9223372036854775808 := by rw [I64_e]; omega
theorem U64_id {x : Int} (h : 0 ≤ x) (h' : x < 18446744073709551616) : U64 x = x := by rw [U64_e]; omega
theorem I64_id {x : Int} (h : -9223372036854775808 ≤ x) (h' : x < 9223372036854775808) : I64 x = x := by rw [I64_e]; omega
theorem shr_e (k : IntKind) (a b : Int) (m : Nat) (hb : b = m) (hm : m ≤ k.bits) : shr k a b = a / (2 : Int) ^ m := by
  subst hb
  unfold shr
  rw [show min (m : Int).toNat k.bits = m by simp; omega, Int.fdiv_eq_ediv_of_nonneg _ (Int.le_of_lt (Int.pow_pos (by decide)))]
theorem shl_e (a b : Int) (m : Nat) (hb : b = m) (hm : m ≤ 64) : shl .u64 a b = (a * (2 : Int) ^ m) % 18446744073709551616 := by
  subst hb
  unfold shl
  rw [show min (m : Int).toNat IntKind.u64.bits = m by simp [IntKind.bits]; omega]
  exact IntKind.wrap_u64 _
theorem shr32u (a : Int) : shr .u64 a 32 = a / 4294967296 := by rw [shr_e .u64 a 32 32 rfl (by decide)]; rfl
theorem shr32i (a : Int) : shr .i64 a 32 = a / 4294967296 := by rw [shr_e .i64 a 32 32 rfl (by decide)]; rfl
theorem shr63i (a : Int) : shr .i64 a 63 = a / 9223372036854775808 := by rw [shr_e .i64 a 63 63 rfl (by decide)]; rfl
theorem shr16u (a : Int) : shr .u64 a 16 = a / 65536 := by rw [shr_e .u64 a 16 16 rfl (by decide)]; rfl
theorem shr8u (a : Int) : shr .u64 a 8 = a / 256 := by rw [shr_e .u64 a 8 8 rfl (by decide)]; rfl
theorem shl32 (a : Int) : shl .u64 a 32 = (a * 4294967296) % 18446744073709551616 := by rw [shl_e a 32 32 rfl (by decide)]; rfl
theorem ofInt_nat (n : Nat) (h : n < 18446744073709551616) : (BitVec.ofInt 64 (n : Int)).toNat = n := by
  rw [BitVec.toNat_ofInt]
  simp
  omega
theorem band_e {a b : Int} (ha : 0 ≤ a) (ha' : a < 18446744073709551616) (hb : 0 ≤ b) (hb' : b < 18446744073709551616) : band .u64 a b = ((a.toNat &&& b.toNat : Nat) : Int) := by
  obtain ⟨A, rfl⟩ := Int.eq_ofNat_of_zero_le ha
  obtain ⟨B, rfl⟩ := Int.eq_ofNat_of_zero_le hb
  unfold band
  have h : A &&& B ≤ A := Nat.and_le_left
  rw [show (BitVec.ofInt IntKind.u64.bits (A : Int) &&& BitVec.ofInt IntKind.u64.bits (B : Int)).toNat = A &&& B by
    rw [BitVec.toNat_and]; congr 1 <;> exact ofInt_nat _ (by omega), IntKind.wrap_u64]
  simp only [Int.toNat_natCast]
  omega
theorem bor_e {a b : Int} (ha : 0 ≤ a) (ha' : a < 18446744073709551616) (hb : 0 ≤ b) (hb' : b < 18446744073709551616) : bor .u64 a b = ((a.toNat ||| b.toNat : Nat) : Int) := by
  obtain ⟨A, rfl⟩ := Int.eq_ofNat_of_zero_le ha
  obtain ⟨B, rfl⟩ := Int.eq_ofNat_of_zero_le hb
  unfold bor
  have h : A ||| B < 2 ^ 64 := Nat.or_lt_two_pow (by omega) (by omega)
  rw [show (BitVec.ofInt IntKind.u64.bits (A : Int) ||| BitVec.ofInt IntKind.u64.bits (B : Int)).toNat = A ||| B by
    rw [BitVec.toNat_or]; congr 1 <;> exact ofInt_nat _ (by omega), IntKind.wrap_u64]
  simp only [Int.toNat_natCast]
  omega
theorem band32 {a : Int} (ha : 0 ≤ a) (ha' : a < 18446744073709551616) : band .u64 a 4294967295 = a % 4294967296 := by
  rw [band_e ha ha' (by omega) (by omega)]
  obtain ⟨A, rfl⟩ := Int.eq_ofNat_of_zero_le ha
  have : A &&& 4294967295 = A % 2 ^ 32 := Nat.and_two_pow_sub_one_eq_mod A 32
  rw [show (4294967295 : Int).toNat = 4294967295 from rfl, Int.toNat_natCast, this]
  rfl
theorem bor_dis {a b : Int} (m : Nat) (ha : 0 ≤ a) (ha' : a < 18446744073709551616) (hb : 0 ≤ b) (hb' : b < (2 ^ m : Nat)) (hm : m ≤ 64) (hd : (2 ^ m : Nat) ∣ a.toNat) : bor .u64 a b = a + b := by
  have h64 : (2 ^ m : Nat) ≤ 2 ^ 64 := Nat.pow_le_pow_right (by decide) hm
  rw [bor_e ha ha' hb (by omega)]
  obtain ⟨A, rfl⟩ := Int.eq_ofNat_of_zero_le ha
  obtain ⟨B, rfl⟩ := Int.eq_ofNat_of_zero_le hb
  obtain ⟨C, hC⟩ := hd
  simp only [Int.toNat_natCast] at hC ⊢
  have : A ||| B = A + B := by
    rw [hC, Nat.mul_comm, ← Nat.shiftLeft_eq, Nat.shiftLeft_add_eq_or_of_lt (by omega)]
  rw [this]
  omega
theorem bor_comm (a b : Int) : bor .u64 a b = bor .u64 b a := by unfold bor; rw [BitVec.or_comm]
theorem bor_rng (a b : Int) : 0 ≤ bor .u64 a b ∧ bor .u64 a b < 18446744073709551616 := by unfold bor; exact ⟨U64_lo _, U64_hi _⟩

theorem letO_e {α β : Type} (x : α) (f : α → β) : letO x f = f x := rfl
theorem quoO_ok (k : IntKind) {a b : Int} (h : b ≠ 0) : quoO k a b = some (k.wrap (a.tdiv b)) := by unfold quoO; rw [show decide (b = 0) = false by simpa using h]; rfl
theorem quoO_u {a b : Int} (h : b ≠ 0) : quoO .u64 a b = some (U64 (a.tdiv b)) := quoO_ok .u64 h
theorem remO_ok (k : IntKind) {a b : Int} (h : b ≠ 0) : remO k a b = some (a.tmod b) := by unfold remO; rw [show decide (b = 0) = false by simpa using h]; rfl
theorem shlO_ok (k : IntKind) {a b : Int} (h : 0 ≤ b) : shlO k a b = some (shl k a b) := by unfold shlO; rw [show decide (b < 0) = false by simpa using h]; rfl
theorem shrO_ok (k : IntKind) {a b : Int} (h : 0 ≤ b) : shrO k a b = some (shr k a b) := by unfold shrO; rw [show decide (b < 0) = false by simpa using h]; rfl
theorem p32 : (2 : Int) ^ 32 = 4294967296 := rfl
theorem cond_some {α : Type} {c : Bool} {x y : Option α} {p : Option α → Prop} (h : c = true → p x) (h' : c = false → p y) : p (cond c x y) := by cases c with | true => exact h rfl | false => exact h' rfl
theorem mul_bd {a b : Int} (ha : 0 ≤ a) (ha' : a < 4294967296) (hb : 0 ≤ b) (hb' : b < 4294967296) : 0 ≤ a * b ∧ a * b ≤ 18446744065119617025 := by
  have h1 := Int.mul_nonneg ha hb
  have h2 : a * b ≤ 4294967295 * 4294967295 := Int.mul_le_mul (by omega) (by omega) hb (by omega)
  omega

theorem subMod {a y : Int} (ha : 0 ≤ a) (ha' : a < 18446744073709551616) (hy : 0 < y) (hy' : y < 4294967296) : U64 (a - U64 (U64 (Int.tdiv a y) * y)) = a % y := by
  have h1 : Int.tdiv a y = a / y := Int.tdiv_eq_ediv_of_nonneg ha
  have h2 := Int.mul_ediv_add_emod a y
  have h3 := Int.emod_nonneg a (Int.ne_of_gt hy)
  have h5 := Int.emod_lt_of_pos a hy
  have h4 : 0 ≤ a / y := Int.ediv_nonneg ha (Int.le_of_lt hy)
  have h6 : a / y ≤ a := Int.ediv_le_self _ ha
  rw [h1, U64_id h4 (by omega)]
  have h7 : a / y * y = a - a % y := by rw [Int.mul_comm]; omega
  rw [h7, U64_id (x := a - a % y) (by have := Int.mul_nonneg h4 (Int.le_of_lt hy); omega) (by omega)]
  rw [U64_id (by omega) (by omega)]
  omega


/-! the two rounds of the long division, over plain integers -/

/-- what one round's guess must come to -/
structure Round (H D Y y1 y0 : Int) : Prop where
  hY : Y = y1 * 4294967296 + y0
  y1l : 2147483648 ≤ y1
  y1h : y1 < 4294967296
  y0l : 0 ≤ y0
  y0h : y0 < 4294967296
  Hl : 0 ≤ H
  Hh : H < Y
  Dl : 0 ≤ D
  Dh : D < 4294967296

theorem Round.q_lt {H D Y y1 y0 : Int} (R : Round H D Y y1 y0) : 0 ≤ (H * 4294967296 + D) / Y ∧ (H * 4294967296 + D) / Y < 4294967296 := by
  obtain ⟨hY, a1, a2, a3, a4, a5, a6, a7, a8⟩ := R
  have hp : 0 < Y := by omega
  refine ⟨Int.ediv_nonneg (by omega) (by omega), Int.ediv_lt_of_lt_mul hp ?_⟩
  omega

/-- the guess is too large just where the test says so -/
theorem Round.test {H D Y y1 y0 q r : Int} (R : Round H D Y y1 y0) (hq : q * y1 + r = H) : (q * y0 > 4294967296 * r + D) ↔ (H * 4294967296 + D) / Y < q := by
  have hp : 0 < Y := by have := R.hY; have := R.y1l; have := R.y0l; omega
  rw [Int.ediv_lt_iff_lt_mul hp]
  have e : q * Y = (q * y1) * 4294967296 + q * y0 := by rw [R.hY]; grind
  rw [e]
  generalize q * y1 = A at *
  generalize q * y0 = B at *
  omega

theorem Round.start {H D Y y1 y0 : Int} (R : Round H D Y y1 y0) : (H * 4294967296 + D) / Y ≤ H / y1 ∧ H / y1 ≤ 4294967297 ∧ (H / y1) * y1 + H % y1 = H := by
  have hp : 0 < Y := by have := R.hY; have := R.y1l; have := R.y0l; omega
  have hp1 : 0 < y1 := by have := R.y1l; omega
  refine ⟨?_, ?_, by rw [Int.mul_comm]; exact Int.mul_ediv_add_emod H y1⟩
  · have h1 := Int.lt_ediv_add_one_mul_self H hp1
    have : (H * 4294967296 + D) / Y < H / y1 + 1 := by
      rw [Int.ediv_lt_iff_lt_mul hp]
      have e : (H / y1 + 1) * Y = ((H / y1 + 1) * y1) * 4294967296 + (H / y1 + 1) * y0 := by rw [R.hY]; grind
      have hn : 0 ≤ (H / y1 + 1) * y0 := Int.mul_nonneg (by have := Int.ediv_nonneg R.Hl (Int.le_of_lt hp1); omega) R.y0l
      rw [e]
      have := R.Dh
      generalize (H / y1 + 1) * y1 = A at *
      generalize (H / y1 + 1) * y0 = B at *
      omega
    omega
  · have : H / y1 < 4294967298 := by
      rw [Int.ediv_lt_iff_lt_mul hp1]
      have := R.Hh; have := R.hY; have := R.y0h; have := R.y1l
      omega
    omega
/-- Knuth: the guess is at most two too large -/
theorem Round.near {H D Y y1 y0 : Int} (R : Round H D Y y1 y0) : H / y1 - (H * 4294967296 + D) / Y ≤ 2 := by
  have hp : 0 < Y := by have := R.hY; have := R.y1l; have := R.y0l; omega
  obtain ⟨_, hle, hm⟩ := R.start
  have : H / y1 - 2 ≤ (H * 4294967296 + D) / Y := by
    rw [Int.le_ediv_iff_mul_le hp]
    have e : (H / y1 - 2) * Y = ((H / y1) * y1) * 4294967296 - 2 * y1 * 4294967296 + (H / y1 - 2) * y0 := by rw [R.hY]; grind
    have hr := Int.emod_nonneg H (show y1 ≠ 0 by have := R.y1l; omega)
    have h1 := R.y1l; have h2 := R.y0h; have h3 := R.y0l; have h4 := R.Dl
    rw [e]
    rcases Int.lt_or_le (H / y1 - 2) 0 with hn | hn
    · have : (H / y1 - 2) * y0 ≤ 0 := Int.mul_nonpos_of_nonpos_of_nonneg (by omega) h3
      generalize (H / y1 - 2) * y0 = B at *
      generalize H / y1 * y1 = A at *
      omega
    · have : (H / y1 - 2) * y0 ≤ 4294967295 * 4294967295 := Int.mul_le_mul (by omega) (by omega) h3 (by omega)
      generalize (H / y1 - 2) * y0 = B at *
      generalize H / y1 * y1 = A at *
      omega
  omega


theorem two_steps {H L1 L0 Y : Int} (hY : 0 < Y) : ((H * 4294967296 + L1) / Y) * 4294967296 + (((H * 4294967296 + L1) % Y) * 4294967296 + L0) / Y = (H * 18446744073709551616 + (L1 * 4294967296 + L0)) / Y := by
  have h := Int.mul_ediv_add_emod (H * 4294967296 + L1) Y
  generalize hq : (H * 4294967296 + L1) / Y = q at *
  generalize hr : (H * 4294967296 + L1) % Y = r at *
  have e : H * 18446744073709551616 + (L1 * 4294967296 + L0) = (r * 4294967296 + L0) + Y * (q * 4294967296) := by
    have : (H * 4294967296 + L1) * 4294967296 = (Y * q + r) * 4294967296 := by rw [h]
    grind
  rw [e, Int.add_mul_ediv_left _ _ (Int.ne_of_gt hY)]
  omega

theorem scale {h l y : Int} (m : Nat) (hy : 0 < y) : ((h * 18446744073709551616 + l) * (2 : Int) ^ m) / (y * (2 : Int) ^ m) = (h * 18446744073709551616 + l) / y :=
  Int.mul_ediv_mul_of_pos_left _ _ (Int.pow_pos (by decide))

theorem shift_split {h l : Int} (s : Nat) (hs : s ≤ 64) (hl : 0 ≤ l) (hl' : l < 18446744073709551616) : (h * (2 : Int) ^ s + l / (2 : Int) ^ (64 - s)) * 18446744073709551616 + (l * (2 : Int) ^ s) % 18446744073709551616 = (h * 18446744073709551616 + l) * (2 : Int) ^ s := by
  have e : (18446744073709551616 : Int) = (2 : Int) ^ (64 - s) * 2 ^ s := by rw [← Int.pow_add, show 64 - s + s = 64 by omega]; rfl
  have h1 : l / (2 : Int) ^ (64 - s) = (l * 2 ^ s) / 18446744073709551616 := by
    rw [e]
    exact (Int.mul_ediv_mul_of_pos_left l _ (Int.pow_pos (by decide))).symm
  have h2 := Int.mul_ediv_add_emod (l * (2 : Int) ^ s) 18446744073709551616
  rw [h1]
  generalize (l * (2 : Int) ^ s) / 18446744073709551616 = a at *
  generalize (l * (2 : Int) ^ s) % 18446744073709551616 = b at *
  have h3 : h * 18446744073709551616 * (2 : Int) ^ s = h * (2 : Int) ^ s * 18446744073709551616 := by grind
  rw [Int.add_mul, Int.add_mul, h3, ← h2]
  omega

/-! ### lists and slices -/
abbrev lo64 : Int := -9223372036854775808
abbrev hi64 : Int := 9223372036854775807
def in64 (z : Int) : Prop := -9223372036854775808 ≤ z ∧ z ≤ 9223372036854775807
theorem dt {p : Prop} [Decidable p] (h : p) : decide p = true := by simpa using h
theorem df {p : Prop} [Decidable p] (h : ¬ p) : decide p = false := by simpa using h
theorem in64_wf {x : Int} (h : (Lit.int .i64 x).wf = true) : in64 x := by obtain ⟨h1, h2⟩ := wf_i64 h; exact ⟨h1, by omega⟩
theorem I64_in (x : Int) : in64 (I64 x) := ⟨I64_lo x, by have := I64_hi x; omega⟩
theorem I64_s {i : Nat} (h : i < 9223372036854775807) : I64 ((i : Int) + 1) = ((i + 1 : Nat) : Int) := by rw [I64_id (by omega) (by omega)]; rfl
theorem idx_at {α : Type} {l : List α} {i : Nat} (h : i < l.length) : idx l (i : Int) = some l[i] := by unfold idx; simp [h]
theorem idx_get? {α : Type} (l : List α) (i : Nat) : idx l (i : Int) = l[i]? := by unfold idx; simp
theorem idx_none {α : Type} {l : List α} {i : Int} (h : i < 0 ∨ (l.length : Int) ≤ i) : idx l i = none := by
  unfold idx
  by_cases h0 : 0 ≤ i
  · rw [dt h0, cond_true]; simp; omega
  · rw [df h0]; rfl
theorem slcO_ok {α : Type} {l : List α} {lo hi : Int} (h0 : 0 ≤ lo) (h1 : lo ≤ hi) (h2 : hi ≤ (l.length : Int)) : slcO l lo hi = some ((l.take hi.toNat).drop lo.toNat) := by
  unfold slcO; rw [dt h0, dt h1, dt h2]; rfl
theorem slcO_take {α : Type} {l : List α} {n : Nat} (h : n ≤ l.length) : slcO l 0 (n : Int) = some (l.take n) := by
  rw [slcO_ok (by omega) (by omega) (by omega)]; simp
theorem slcO_min {α : Type} (l : List α) (n : Nat) : slcO l 0 (imin (l.length : Int) (n : Int)) = some (l.take n) := by
  have : imin (l.length : Int) (n : Int) = ((min l.length n : Nat) : Int) := by unfold imin; split <;> omega
  rw [this, slcO_take (by omega)]
  congr 1
  rw [List.take_eq_take_iff]
  omega
theorem appO_ok {α : Type} {b : Nat} {l r : List α} (h : (l.length + r.length) * b ≤ 140737488355328) : appO b l r = some (l ++ r) := by
  unfold appO; rw [Nat.ble_eq_true_of_le h]; rfl
theorem inRO_ok {i : Int} {n : Nat} (h : 0 ≤ i) (h' : i < (n : Int)) : inRO i n = some () := by
  unfold inRO inR; simp [h, h']
theorem maxLen_e : maxLen = 9223372036854775807 := by decide
end Go.UK
