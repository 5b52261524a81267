/- A part of the proof: what the functions of the program compute. -/
import Derived.Test.YtbifjcmhomoppaaGreatLib13
import Derived.Laws.Bits64
import Derived.Laws.BitsLemmas
namespace Go.UK
open Go
variable [Globs]
set_option linter.all false
theorem U64_e (x : Int) : U64 x = x % 18446744073709551616 := IntKind.wrap_u64 x
theorem I64_e (x : Int) : I64 x = (x + 9223372036854775808) % 18446744073709551616 - 9223372036854775808 := IntKind.wrap_i64 x
theorem U64_lo (x : Int) : 0 ≤ U64 x := by rw [U64_e]; omega
theorem U64_hi (x : Int) : U64 x < 18446744073709551616 := by rw [U64_e]; omega
theorem U64_id {x : Int} (h : 0 ≤ x) (h' : x < 18446744073709551616) : U64 x = x := by rw [U64_e]; omega
theorem I64_id {x : Int} (h : -9223372036854775808 ≤ x) (h' : x < 9223372036854775808) : I64 x = x := by rw [I64_e]; omega
theorem shr_e (k : IntKind) (a b : Int) (m : Nat) (hb : b = m) (hm : m ≤ k.bits) : shr k a b = a / (2 : Int) ^ m := by
 subst hb
 unfold shr
 rw [show min (m : Int).toNat k.bits = m by simp; omega, Int.fdiv_eq_ediv_of_nonneg _ (Int.le_of_lt (Int.pow_pos (by decide)))]
theorem shl_e (a b : Int) (m : Nat) (hb : b = m) (hm : m ≤ 64) : shl .u64 a b = (a * (2 : Int) ^ m) % 18446744073709551616 := by
 subst hb
 unfold shl
 rw [show min (m : Int).toNat IntKind.u64.bits = m by simp [IntKind.bits]; omega]
 exact IntKind.wrap_u64 _
theorem ofInt_nat (n : Nat) (h : n < 18446744073709551616) : (BitVec.ofInt 64 (n : Int)).toNat = n := by
 rw [BitVec.toNat_ofInt]
 simp
 omega
theorem band_e {a b : Int} (ha : 0 ≤ a) (ha' : a < 18446744073709551616) (hb : 0 ≤ b) (hb' : b < 18446744073709551616) : band .u64 a b = ((a.toNat &&& b.toNat : Nat) : Int) := by
 obtain ⟨A, rfl⟩ := Int.eq_ofNat_of_zero_le ha
 obtain ⟨B, rfl⟩ := Int.eq_ofNat_of_zero_le hb
 unfold band
 have h : A &&& B ≤ A := Nat.and_le_left
 rw [show (BitVec.ofInt IntKind.u64.bits (A : Int) &&& BitVec.ofInt IntKind.u64.bits (B : Int)).toNat = A &&& B by
  rw [BitVec.toNat_and]; congr 1 <;> exact ofInt_nat _ (by omega), IntKind.wrap_u64]
 simp only [Int.toNat_natCast]
 omega
theorem bor_e {a b : Int} (ha : 0 ≤ a) (ha' : a < 18446744073709551616) (hb : 0 ≤ b) (hb' : b < 18446744073709551616) : bor .u64 a b = ((a.toNat ||| b.toNat : Nat) : Int) := by
 obtain ⟨A, rfl⟩ := Int.eq_ofNat_of_zero_le ha
 obtain ⟨B, rfl⟩ := Int.eq_ofNat_of_zero_le hb
 unfold bor
 have h : A ||| B < 2 ^ 64 := Nat.or_lt_two_pow (by omega) (by omega)
 rw [show (BitVec.ofInt IntKind.u64.bits (A : Int) ||| BitVec.ofInt IntKind.u64.bits (B : Int)).toNat = A ||| B by
  rw [BitVec.toNat_or]; congr 1 <;> exact ofInt_nat _ (by omega), IntKind.wrap_u64]
 simp only [Int.toNat_natCast]
 omega
theorem bor_dis {a b : Int} (m : Nat) (ha : 0 ≤ a) (ha' : a < 18446744073709551616) (hb : 0 ≤ b) (hb' : b < (2 ^ m : Nat)) (hm : m ≤ 64) (hd : (2 ^ m : Nat) ∣ a.toNat) : bor .u64 a b = a + b := by
 have h64 : (2 ^ m : Nat) ≤ 2 ^ 64 := Nat.pow_le_pow_right (by decide) hm
 rw [bor_e ha ha' hb (by omega)]
 obtain ⟨A, rfl⟩ := Int.eq_ofNat_of_zero_le ha
 obtain ⟨B, rfl⟩ := Int.eq_ofNat_of_zero_le hb
 obtain ⟨C, hC⟩ := hd
 simp only [Int.toNat_natCast] at hC ⊢
 have : A ||| B = A + B := by
  rw [hC, Nat.mul_comm, ← Nat.shiftLeft_eq, Nat.shiftLeft_add_eq_or_of_lt (by omega)]
 rw [this]
 omega
theorem bor_comm (a b : Int) : bor .u64 a b = bor .u64 b a := by unfold bor; rw [BitVec.or_comm]
theorem bor_rng (a b : Int) : 0 ≤ bor .u64 a b ∧ bor .u64 a b < 18446744073709551616 := by unfold bor; exact ⟨U64_lo _, U64_hi _⟩

theorem letO_e {α β : Type} (x : α) (f : α → β) : letO x f = f x := rfl
theorem shlO_ok (k : IntKind) {a b : Int} (h : 0 ≤ b) : shlO k a b = some (shl k a b) := by unfold shlO; rw [show decide (b < 0) = false by simpa using h]; rfl
theorem shrO_ok (k : IntKind) {a b : Int} (h : 0 ≤ b) : shrO k a b = some (shr k a b) := by unfold shrO; rw [show decide (b < 0) = false by simpa using h]; rfl
def in64 (z : Int) : Prop := -9223372036854775808 ≤ z ∧ z ≤ 9223372036854775807
theorem dt {p : Prop} [Decidable p] (h : p) : decide p = true := by simpa using h
theorem df {p : Prop} [Decidable p] (h : ¬ p) : decide p = false := by simpa using h
theorem in64_wf {x : Int} (h : (Lit.int .i64 x).wf = true) : in64 x := by obtain ⟨h1, h2⟩ := wf_i64 h; exact ⟨h1, by omega⟩
theorem I64_s {i : Nat} (h : i < 9223372036854775807) : I64 ((i : Int) + 1) = ((i + 1 : Nat) : Int) := by rw [I64_id (by omega) (by omega)]; rfl
theorem idx_at {α : Type} {l : List α} {i : Nat} (h : i < l.length) : idx l (i : Int) = some l[i] := by unfold idx; simp [h]
theorem idx_get? {α : Type} (l : List α) (i : Nat) : idx l (i : Int) = l[i]? := by unfold idx; simp
theorem slcO_ok {α : Type} {l : List α} {lo hi : Int} (h0 : 0 ≤ lo) (h1 : lo ≤ hi) (h2 : hi ≤ (l.length : Int)) : slcO l lo hi = some ((l.take hi.toNat).drop lo.toNat) := by
 unfold slcO; rw [dt h0, dt h1, dt h2]; rfl
theorem slcO_take {α : Type} {l : List α} {n : Nat} (h : n ≤ l.length) : slcO l 0 (n : Int) = some (l.take n) := by
 rw [slcO_ok (by omega) (by omega) (by omega)]; simp
theorem slcO_min {α : Type} (l : List α) (n : Nat) : slcO l 0 (imin (l.length : Int) (n : Int)) = some (l.take n) := by
 have : imin (l.length : Int) (n : Int) = ((min l.length n : Nat) : Int) := by unfold imin; split <;> omega
 rw [this, slcO_take (by omega)]
 congr 1
 rw [List.take_eq_take_iff]
 omega
theorem appO_ok {α : Type} {b : Nat} {l r : List α} (h : (l.length + r.length) * b ≤ 140737488355328) : appO b l r = some (l ++ r) := by
 unfold appO; rw [Nat.ble_eq_true_of_le h]; rfl
theorem inRO_ok {i : Int} {n : Nat} (h : 0 ≤ i) (h' : i < (n : Int)) : inRO i n = some () := by
 unfold inRO inR; simp [h, h']
end Go.UK
namespace Go.UK
open Go
variable [Globs]
set_option linter.all false
end Go.UK
namespace Go.UK
open Go
variable [Globs]
set_option linter.all false
theorem loopAny {α β : Type} (l : List α) (q : α → Bool) (r : β) (F : Nat → Int → Option (Sum Unit β)) (hl : l.length < 9223372036854775807)
  (h1 : ∀ k i (h : i < l.length), F (k + 1) (i : Int) = cond (q l[i]) (some (Sum.inr r)) (F k (I64 ((i : Int) + 1)))) (h2 : ∀ k, F (k + 1) (l.length : Int) = some (Sum.inl ())) :
  ∀ (k i : Nat), i ≤ l.length → l.length - i < k → F k (i : Int) = some (cond ((l.drop i).any q) (Sum.inr r) (Sum.inl ()))
 | 0, i, _, h => by omega
 | k + 1, i, hi, hk => by
  by_cases h : i < l.length
  ·rw [h1 k i h, List.drop_eq_getElem_cons h, List.any_cons]
   cases q l[i] with
   | true => rfl
   | false => rw [cond_false, I64_s (by omega), loopAny l q r F hl h1 h2 k (i + 1) (by omega) (by omega)]; rfl
  ·obtain rfl : i = l.length := by omega
   rw [h2, List.drop_length]; rfl
theorem loopAny0 {α β : Type} (l : List α) (q : α → Bool) (r : β) (F : Nat → Int → Option (Sum Unit β)) (hl : l.length < 9223372036854775807)
  (h1 : ∀ k i (h : i < l.length), F (k + 1) (i : Int) = cond (q l[i]) (some (Sum.inr r)) (F k (I64 ((i : Int) + 1)))) (h2 : ∀ k, F (k + 1) (l.length : Int) = some (Sum.inl ()))
  {N : Nat} (hN : l.length < N) : F N 0 = some (cond (l.any q) (Sum.inr r) (Sum.inl ())) := by
 have := loopAny l q r F hl h1 h2 N 0 (by omega) (by omega)
 rwa [List.drop_zero] at this
theorem loopFlat {α : Type} (n : Nat) (hn : n < 9223372036854775807) (g : Nat → List α) (I : List α → Nat → Prop) (F : Nat → List α → Int → Option (List α)) (hI : ∀ s i, i < n → I s i → I (s ++ g i) (i + 1))
  (hstep : ∀ k s i, i < n → I s i → F (k + 1) s (i : Int) = F k (s ++ g i) (I64 ((i : Int) + 1))) (hend : ∀ k s, F (k + 1) s (n : Int) = some s) :
  ∀ (k i : Nat) (s : List α), I s i → i ≤ n → n - i < k → F k s (i : Int) = some (s ++ (List.range' i (n - i)).flatMap g)
 | 0, i, _, _, _, h => by omega
 | k + 1, i, s, hs, hi, hk => by
  by_cases h : i < n
  ·rw [hstep k s i h hs, I64_s (by omega), loopFlat n hn g I F hI hstep hend k (i + 1) _ (hI s i h hs) (by omega) (by omega), show n - i = (n - (i + 1)) + 1 by omega, List.range'_succ, List.flatMap_cons, List.append_assoc]
  ·obtain rfl : i = n := by omega
   rw [hend, Nat.sub_self]; simp
theorem loopFlat0 {α : Type} (n : Nat) (hn : n < 9223372036854775807) (g : Nat → List α) (I : List α → Nat → Prop) (F : Nat → List α → Int → Option (List α)) (hI : ∀ s i, i < n → I s i → I (s ++ g i) (i + 1))
  (hstep : ∀ k s i, i < n → I s i → F (k + 1) s (i : Int) = F k (s ++ g i) (I64 ((i : Int) + 1))) (hend : ∀ k s, F (k + 1) s (n : Int) = some s)
  {N : Nat} (hN : n < N) {s : List α} (hs : I s 0) : F N s 0 = some (s ++ (List.range n).flatMap g) := by
 have := loopFlat n hn g I F hI hstep hend N 0 s hs (by omega) (by omega)
 rw [Nat.sub_zero, ← List.range_eq_range'] at this
 exact this
theorem flatMap_single {α : Type} (l : List Nat) (f : Nat → α) : l.flatMap (fun i => [f i]) = l.map f := by
 induction l with
 | nil => rfl
 | cons x l ih => simp [List.flatMap_cons, ih]
end Go.UK
namespace Go.UK
open Go
variable [Globs]
set_option linter.all false
end Go.UK
