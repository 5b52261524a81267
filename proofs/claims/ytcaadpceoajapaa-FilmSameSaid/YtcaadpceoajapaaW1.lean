/- A part of the proof: what the functions of the program compute. -/
import Derived.Test.YtcaadpceoajapaaLib5
import Derived.Laws.Bits64
import Derived.Laws.BitsLemmas
namespace Go.UK
open Go
/-! the words of the pure functions, in arithmetic -/
theorem U64_e (x : Int) : U64 x = x % 18446744073709551616 := IntKind.wrap_u64 x
theorem I64_e (x : Int) : I64 x = (x + 9223372036854775808) % 18446744073709551616 - 9223372036854775808 := IntKind.wrap_i64 x
theorem U64_lo (x : Int) : 0 ≤ U64 x := by rw [U64_e]; omega
theorem U64_hi (x : Int) : U64 x < 18446744073709551616 := by rw [U64_e]; omega
theorem I64_lo (x : Int) : -9223372036854775808 ≤ I64 x := by rw [I64_e]; omega
theorem I64_hi (x : Int) : I64 x < 9223372036854775808 := by rw [I64_e]; omega
theorem U64_id {x : Int} (h : 0 ≤ x) (h' : x < 18446744073709551616) : U64 x = x := by rw [U64_e]; omega
theorem I64_id {x : Int} (h : -9223372036854775808 ≤ x) (h' : x < 9223372036854775808) : I64 x = x := by rw [I64_e]; omega
theorem shr_e (k : IntKind) (a b : Int) (m : Nat) (hb : b = m) (hm : m ≤ k.bits) : shr k a b = a / (2 : Int) ^ m := by
  subst hb
  unfold shr
  rw [show min (m : Int).toNat k.bits = m by simp; omega, Int.fdiv_eq_ediv_of_nonneg _ (Int.le_of_lt (Int.pow_pos (by decide)))]
theorem shl_e (a b : Int) (m : Nat) (hb : b = m) (hm : m ≤ 64) : shl .u64 a b = (a * (2 : Int) ^ m) % 18446744073709551616 := by
  subst hb
  unfold shl
  rw [show min (m : Int).toNat IntKind.u64.bits = m by simp [IntKind.bits]; omega]
  exact IntKind.wrap_u64 _
theorem shr32u (a : Int) : shr .u64 a 32 = a / 4294967296 := by rw [shr_e .u64 a 32 32 rfl (by decide)]; rfl
theorem shr32i (a : Int) : shr .i64 a 32 = a / 4294967296 := by rw [shr_e .i64 a 32 32 rfl (by decide)]; rfl
theorem shr63i (a : Int) : shr .i64 a 63 = a / 9223372036854775808 := by rw [shr_e .i64 a 63 63 rfl (by decide)]; rfl
theorem shr16u (a : Int) : shr .u64 a 16 = a / 65536 := by rw [shr_e .u64 a 16 16 rfl (by decide)]; rfl
theorem shr8u (a : Int) : shr .u64 a 8 = a / 256 := by rw [shr_e .u64 a 8 8 rfl (by decide)]; rfl
theorem shl32 (a : Int) : shl .u64 a 32 = (a * 4294967296) % 18446744073709551616 := by rw [shl_e a 32 32 rfl (by decide)]; rfl
theorem ofInt_nat (n : Nat) (h : n < 18446744073709551616) : (BitVec.ofInt 64 (n : Int)).toNat = n := by
  rw [BitVec.toNat_ofInt]
  simp
  omega
theorem band_e {a b : Int} (ha : 0 ≤ a) (ha' : a < 18446744073709551616) (hb : 0 ≤ b) (hb' : b < 18446744073709551616) : band .u64 a b = ((a.toNat &&& b.toNat : Nat) : Int) := by
  obtain ⟨A, rfl⟩ := Int.eq_ofNat_of_zero_le ha
  obtain ⟨B, rfl⟩ := Int.eq_ofNat_of_zero_le hb
  unfold band
  have h : A &&& B ≤ A := Nat.and_le_left
  rw [show (BitVec.ofInt IntKind.u64.bits (A : Int) &&& BitVec.ofInt IntKind.u64.bits (B : Int)).toNat = A &&& B by
    rw [BitVec.toNat_and]; congr 1 <;> exact ofInt_nat _ (by omega), IntKind.wrap_u64]
  simp only [Int.toNat_natCast]
  omega
theorem bor_e {a b : Int} (ha : 0 ≤ a) (ha' : a < 18446744073709551616) (hb : 0 ≤ b) (hb' : b < 18446744073709551616) : bor .u64 a b = ((a.toNat ||| b.toNat : Nat) : Int) := by
  obtain ⟨A, rfl⟩ := Int.eq_ofNat_of_zero_le ha
  obtain ⟨B, rfl⟩ := Int.eq_ofNat_of_zero_le hb
  unfold bor
  have h : A ||| B < 2 ^ 64 := Nat.or_lt_two_pow (by omega) (by omega)
  rw [show (BitVec.ofInt IntKind.u64.bits (A : Int) ||| BitVec.ofInt IntKind.u64.bits (B : Int)).toNat = A ||| B by
    rw [BitVec.toNat_or]; congr 1 <;> exact ofInt_nat _ (by omega), IntKind.wrap_u64]
  simp only [Int.toNat_natCast]
  omega
theorem band32 {a : Int} (ha : 0 ≤ a) (ha' : a < 18446744073709551616) : band .u64 a 4294967295 = a % 4294967296 := by
  rw [band_e ha ha' (by omega) (by omega)]
  obtain ⟨A, rfl⟩ := Int.eq_ofNat_of_zero_le ha
  have : A &&& 4294967295 = A % 2 ^ 32 := Nat.and_two_pow_sub_one_eq_mod A 32
  rw [show (4294967295 : Int).toNat = 4294967295 from rfl, Int.toNat_natCast, this]
  rfl
theorem bor_dis {a b : Int} (m : Nat) (ha : 0 ≤ a) (ha' : a < 18446744073709551616) (hb : 0 ≤ b) (hb' : b < (2 ^ m : Nat)) (hm : m ≤ 64) (hd : (2 ^ m : Nat) ∣ a.toNat) : bor .u64 a b = a + b := by
  have h64 : (2 ^ m : Nat) ≤ 2 ^ 64 := Nat.pow_le_pow_right (by decide) hm
  rw [bor_e ha ha' hb (by omega)]
  obtain ⟨A, rfl⟩ := Int.eq_ofNat_of_zero_le ha
  obtain ⟨B, rfl⟩ := Int.eq_ofNat_of_zero_le hb
  obtain ⟨C, hC⟩ := hd
  simp only [Int.toNat_natCast] at hC ⊢
  have : A ||| B = A + B := by
    rw [hC, Nat.mul_comm, ← Nat.shiftLeft_eq, Nat.shiftLeft_add_eq_or_of_lt (by omega)]
  rw [this]
  omega
theorem bor_comm (a b : Int) : bor .u64 a b = bor .u64 b a := by unfold bor; rw [BitVec.or_comm]
theorem bor_rng (a b : Int) : 0 ≤ bor .u64 a b ∧ bor .u64 a b < 18446744073709551616 := by unfold bor; exact ⟨U64_lo _, U64_hi _⟩

theorem letO_e {α β : Type} (x : α) (f : α → β) : letO x f = f x := rfl
theorem reqF_ok {c : Bool} {β : Type} (f : Unit → Option β) (h : c = false) : Option.bind (reqF c) f = f () := by subst h; rfl
end Go.UK
