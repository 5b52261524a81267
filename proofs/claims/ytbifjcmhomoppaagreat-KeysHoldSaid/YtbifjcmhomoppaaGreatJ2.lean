/- A part of the proof: what the functions of the program compute. -/
import Derived.Test.YtbifjcmhomoppaaGreatJ1
import Derived.Test.YtbifjcmhomoppaaGreatH11
namespace Go.UK
open Go Go.Proofs
set_option maxRecDepth 20000
set_option maxHeartbeats 2000000
set_option linter.all false
theorem U32_e (x : Int) : U32 x = x % 4294967296 := IntKind.wrap_u32 x
theorem U8_e (x : Int) : U8 x = x % 256 := IntKind.wrap_u8 x
theorem U32_id {x : Int} (h : 0 ≤ x) (h' : x < 4294967296) : U32 x = x := by rw [U32_e]; omega
theorem U8_id {x : Int} (h : 0 ≤ x) (h' : x < 256) : U8 x = x := by rw [U8_e]; omega
theorem bor_comm' (k : IntKind) (a b : Int) : bor k a b = bor k b a := by unfold bor; rw [BitVec.or_comm]
def isW (x : Int) : Prop := 0 ≤ x ∧ x < 4294967296
def isB (x : Int) : Prop := 0 ≤ x ∧ x < 256
theorem isB.w {x : Int} (h : isB x) : isW x := ⟨h.1, by have := h.2; omega⟩
theorem U8_b (x : Int) : isB (U8 x) := by rw [U8_e]; exact ⟨by omega, by omega⟩
theorem ofInt_nat32 (n : Nat) (h : n < 4294967296) : (BitVec.ofInt 32 (n : Int)).toNat = n := by
 rw [BitVec.toNat_ofInt]; simp; omega
theorem bor32_e {a b : Int} (ha : isW a) (hb : isW b) : bor .u32 a b = ((a.toNat ||| b.toNat : Nat) : Int) := by
 obtain ⟨ha, ha'⟩ := ha
 obtain ⟨hb, hb'⟩ := hb
 obtain ⟨A, rfl⟩ := Int.eq_ofNat_of_zero_le ha
 obtain ⟨B, rfl⟩ := Int.eq_ofNat_of_zero_le hb
 unfold bor
 have h : A ||| B < 2 ^ 32 := Nat.or_lt_two_pow (by omega) (by omega)
 rw [show (BitVec.ofInt IntKind.u32.bits (A : Int) ||| BitVec.ofInt IntKind.u32.bits (B : Int)).toNat = A ||| B by
  rw [BitVec.toNat_or]; congr 1 <;> exact ofInt_nat32 _ (by omega), IntKind.wrap_u32]
 simp only [Int.toNat_natCast]
 omega
theorem bor32_dis {a b : Int} (m : Nat) (ha : isW a) (hb : 0 ≤ b) (hb' : b < (2 ^ m : Nat)) (hm : m ≤ 32) (hd : (2 ^ m : Nat) ∣ a.toNat) : bor .u32 a b = a + b := by
 have h32 : (2 ^ m : Nat) ≤ 2 ^ 32 := Nat.pow_le_pow_right (by decide) hm
 rw [bor32_e ha ⟨hb, by omega⟩]
 obtain ⟨A, rfl⟩ := Int.eq_ofNat_of_zero_le ha.1
 obtain ⟨B, rfl⟩ := Int.eq_ofNat_of_zero_le hb
 obtain ⟨C, hC⟩ := hd
 simp only [Int.toNat_natCast] at hC ⊢
 have : A ||| B = A + B := by
  rw [hC, Nat.mul_comm, ← Nat.shiftLeft_eq, Nat.shiftLeft_add_eq_or_of_lt (by omega)]
 rw [this]
 omega
theorem shl32_e (a b : Int) (m : Nat) (hb : b = m) (hm : m ≤ 32) : shl .u32 a b = (a * (2 : Int) ^ m) % 4294967296 := by
 subst hb
 unfold shl
 rw [show min (m : Int).toNat IntKind.u32.bits = m by simp [IntKind.bits]; omega]
 exact IntKind.wrap_u32 _
theorem bxor_b {a b : Int} : isB (bxor .u8 a b) := U8_b _
theorem vget {α : Type} {m : Nat} (v : Vector α m) (i : Nat) (h : i < m) : v.toList[i]? = some v[i] := by simp [h]
theorem getD_vec {m : Nat} (v : Vector Int m) (i : Nat) (h : i < m) : v.toList.getD i 0 = v[i] := by rw [List.getD_eq_getElem?_getD, vget v i h]; rfl
theorem get_getD {l : List Int} {i : Nat} (h : i < l.length) : l[i]? = some (l.getD i 0) := by rw [List.getD_eq_getElem?_getD, List.getElem?_eq_getElem h]; rfl
theorem idx_D {l : List Int} {i : Nat} (h : i < l.length) : idx l (i : Int) = some (l.getD i 0) := by rw [idx_get?, get_getD h]
theorem vtake {m : Nat} {v : Vector Int m} {l : List Int} {i j : Nat} (h : v.toList.take i = l) (hj : j < i) (hi : i ≤ m) : v.toList[j]? = some (l.getD j 0) := by
 rw [← h, ← get_getD (by simp; omega), List.getElem?_take_of_lt hj]
theorem set_take {m : Nat} {v : Vector Int m} {l : List Int} {i : Nat} {x : Int} (h : v.toList.take i = l) (hi : i < m) : (v.setIfInBounds i x).toList.take (i + 1) = l ++ [x] := by
 have e : (v.setIfInBounds i x).toList = v.toList.set i x := by simp
 rw [e, List.take_succ, List.take_set_of_le (Nat.le_refl _), h, List.getElem?_set_self (by simp; omega)]
 rfl
theorem loopI {σ : Type} (n : Nat) (hn : n < 9223372036854775807) (I : Nat → σ → Prop) (F : Nat → σ → Int → Option σ)
  (hstep : ∀ k s i, i < n → I i s → ∃ s', I (i + 1) s' ∧ F (k + 1) s (i : Int) = F k s' (I64 ((i : Int) + 1))) (hend : ∀ k s, F (k + 1) s (n : Int) = some s) :
  ∀ (k i : Nat) (s : σ), I i s → i ≤ n → n - i < k → ∃ s', I n s' ∧ F k s (i : Int) = some s'
 | 0, i, _, _, _, h => by omega
 | k + 1, i, s, hs, hi, hk => by
  by_cases h : i < n
  ·obtain ⟨s', h1, h2⟩ := hstep k s i h hs
   rw [h2, I64_s (by omega)]
   exact loopI n hn I F hstep hend k (i + 1) s' h1 (by omega) (by omega)
  ·obtain rfl : i = n := by omega
   exact ⟨s, hs, hend _ _⟩
def bytesL (m : List Int) : Prop := ∀ x ∈ m, isB x
theorem bytesL.app {a b : List Int} (ha : bytesL a) (hb : bytesL b) : bytesL (a ++ b) := fun x hx => by
 rcases List.mem_append.1 hx with h | h
 ·exact ha x h
 ·exact hb x h
theorem bytesL.getD {m : List Int} (h : bytesL m) (i : Nat) : isB (m.getD i 0) := by
 rw [List.getD_eq_getElem?_getD]
 by_cases hi : i < m.length
 ·rw [List.getElem?_eq_getElem hi]; exact h _ (List.getElem_mem hi)
 ·rw [List.getElem?_eq_none (by omega)]; exact ⟨by simp, by simp⟩
theorem bytesL.take {m : List Int} (h : bytesL m) (n : Nat) : bytesL (m.take n) := fun x hx => h x (List.mem_of_mem_take hx)
theorem bytesL.drop {m : List Int} (h : bytesL m) (n : Nat) : bytesL (m.drop n) := fun x hx => h x (List.mem_of_mem_drop hx)
theorem slcO_drop {α : Type} {l : List α} {n : Nat} (h : n ≤ l.length) : slcO l (n : Int) (l.length : Int) = some (l.drop n) := by
 rw [slcO_ok (by omega) (by omega) (by omega)]; simp
theorem appO1 {l r : List Int} (h : l.length ≤ 1000000) (h' : r.length ≤ 1000000) : appO 1 l r = some (l ++ r) := appO_ok (by omega)
def leB (w : Nat) (x : Int) : List Int := (List.range w).map (fun i => U8 (shr .u64 x ((8 * i : Nat) : Int)))
theorem leB_len (w : Nat) (x : Int) : (leB w x).length = w := by unfold leB; simp
theorem leB_bytes (w : Nat) (x : Int) : bytesL (leB w x) := by
 intro y hy
 unfold leB at hy
 obtain ⟨i, _, rfl⟩ := List.mem_map.1 hy
 exact U8_b _
def p256 (w : Nat) : Int := 256 ^ w
theorem p256_2 (w : Nat) : (2 : Int) ^ (8 * w) = p256 w := by unfold p256; rw [Int.pow_mul]; rfl
theorem shr8 (x : Int) (i : Nat) (h : i ≤ 8) : shr .u64 x ((8 * i : Nat) : Int) = x / p256 i := by
 rw [shr_e .u64 x _ (8 * i) rfl (by show 8 * i ≤ 64; omega), p256_2]
theorem p256_pos (w : Nat) : 0 < p256 w := Int.pow_pos (by decide)
theorem p256_s (w : Nat) : p256 (w + 1) = p256 w * 256 := Int.pow_succ _ _
theorem loopPut {α β ρ : Type} (l : List α) (hl : l.length < 9223372036854775807) (bad : α → Bool) (f : α → List β) (r : ρ) (I : List β → Nat → Prop) (F : Nat → List β → Int → Option (Sum (List β) ρ))
  (hI : ∀ s i (h : i < l.length), I s i → I (s ++ f l[i]) (i + 1)) (h1 : ∀ k s i (h : i < l.length), I s i → F (k + 1) s (i : Int) = cond (bad l[i]) (some (.inr r)) (F k (s ++ f l[i]) (I64 ((i : Int) + 1)))) (h2 : ∀ k s, F (k + 1) s (l.length : Int) = some (.inl s)) :
  ∀ (k i : Nat) (s : List β), I s i → i ≤ l.length → l.length - i < k → F k s (i : Int) = some (cond ((l.drop i).any bad) (.inr r) (.inl (s ++ (l.drop i).flatMap f)))
 | 0, i, _, _, _, h => by omega
 | k + 1, i, s, hs, hi, hk => by
  by_cases h : i < l.length
  ·rw [h1 k s i h hs, List.drop_eq_getElem_cons h, List.any_cons]
   cases hb : bad l[i] with
   | true => rfl
   | false =>
    rw [cond_false, I64_s (by omega), loopPut l hl bad f r I F hI h1 h2 k (i + 1) _ (hI s i h hs) (by omega) (by omega), Bool.false_or, List.flatMap_cons, List.append_assoc]
  ·obtain rfl : i = l.length := by omega
   rw [h2, List.drop_length]; simp
def big (w : Nat) (x : Int) : Bool := decide (p256 w ≤ x)
def putV (b : List Int) (w : Nat) (ns : List Int) : List Int × Int := cond (ns.any (big w)) ([], 3) (b ++ ns.flatMap (leB w), 0)
def u64L (ns : List Int) : Prop := ∀ x ∈ ns, 0 ≤ x ∧ x < 18446744073709551616
theorem putL2 (N : Nat) (w : Nat) (hw : w ≤ 8) (x : Int) (s : List Int) (hs : s.length ≤ 100000000000000) (hN : 8 < N) : p_codec_Put_L2 N (w : Int) x N s 0 = some (s ++ leB w x) := by
 have := loopFlat0 w (by omega) (fun i => [U8 (shr .u64 x ((8 * i : Nat) : Int))]) (fun s i => s.length ≤ 100000000000000 + i) (p_codec_Put_L2 N (w : Int) x) (by intro s i hi hs; simp; omega) (fun k s i hi hs => by
  have f : I64 (8 * (i : Int)) = ((8 * i : Nat) : Int) := by rw [I64_id (by omega) (by omega)]; omega
  rw [p_codec_Put_L2, dt (by omega), cond_true, f, shrO_ok .u64 (by omega), Option.bind_some, appO_ok (by simp; omega), Option.bind_some]) (fun k s => by rw [p_codec_Put_L2, df (by omega), cond_false]) (N := N) (by omega) (s := s) (by simpa using hs)
 rw [this, flatMap_single]
 rfl
theorem clone1 (N : Nat) (l : List Int) (h : l.length ≤ 100000000000000) : p_slices_Clone_byte_byte N l = some l := by
 unfold p_slices_Clone_byte_byte
 rw [appO_ok (by simp; omega), Option.bind_some, List.nil_append]
theorem big8 {x : Int} (h : x < 18446744073709551616) : big 8 x = false := by
 unfold big
 rw [show p256 8 = 18446744073709551616 from rfl]
 exact df (by omega)
theorem putP (N : Nat) (b : List Int) (w : Nat) (hw0 : 1 ≤ w) (hw : w ≤ 8) (ns : List Int) (hns : u64L ns) (hb : b.length ≤ 10000000000000) (hl : ns.length ≤ 1000000000000) (hN : 8 < N) (hlN : ns.length < N) : p_codec_Put N b (w : Int) ns = some (putV b w ns) := by
 unfold p_codec_Put
 rw [df (show ¬ (w : Int) < 1 by omega), df (show ¬ (w : Int) > 8 by omega), cond_false, letO_e, cond_false, clone1 N b (by omega), Option.bind_some]
 have := loopPut ns (by omega) (big w) (leB w) (([], 3) : List Int × Int) (fun s i => s.length ≤ 10000000000000 + 8 * i) (fun k s i => p_codec_Put_L1 N ns (w : Int) k s i) (by intro s i h hs; simp [leB_len]; omega) (fun k s i h hs => by
  have hx := hns _ (List.getElem_mem h)
  have f : I64 (8 * (w : Int)) = ((8 * w : Nat) : Int) := by rw [I64_id (by omega) (by omega)]; omega
  rw [p_codec_Put_L1, letO_e, dt (by omega), cond_true, idx_at h, Option.bind_some]
  have e : (cond (decide ((w : Int) < 8)) (Option.bind (shrO .u64 ns[i] (I64 (8 * (w : Int)))) fun x9 => some (decide (x9 > 0))) (some false)) = some (big w ns[i]) := by
   by_cases h8 : w < 8
   ·rw [dt (by omega), cond_true, f, shrO_ok .u64 (by omega), Option.bind_some, shr8 _ _ (by omega)]
    congr 1
    unfold big
    have hp := p256_pos w
    by_cases hb : p256 w ≤ ns[i]
    ·have : 1 ≤ ns[i] / p256 w := (Int.le_ediv_iff_mul_le hp).2 (by omega)
     rw [dt hb, dt (by omega)]
    ·have : ns[i] / p256 w < 1 := Int.ediv_lt_of_lt_mul hp (by omega)
     rw [df hb, df (by omega)]
   ·obtain rfl : w = 8 := by omega
    rw [df (by omega), cond_false, big8 hx.2]
  rw [e, Option.bind_some]
  cases hbg : big w ns[i] with
  | true => rfl
  | false => rw [cond_false, cond_false, putL2 N w hw _ _ (by omega) hN, Option.bind_some]) (fun k s => by rw [p_codec_Put_L1, letO_e, df (by omega), cond_false]) N 0 b (by omega) (by omega) (by omega)
 rw [show ((0 : Nat) : Int) = 0 from rfl, List.drop_zero] at this
 rw [this, Option.bind_some]
 unfold putV
 cases ns.any (big w) <;> rfl
def badS (w : Nat) (x : Int) : Bool := decide (x < -(p256 w / 2)) || decide (p256 w / 2 ≤ x)
def in64L (ns : List Int) : Prop := ∀ x ∈ ns, in64 x
def sgnV (b : List Int) (w : Nat) (ns : List Int) : List Int × Int := cond (ns.any (badS w)) ([], 3) (putV b w (ns.map (fun x => x % p256 w)))
theorem w8 {w : Nat} (h0 : 1 ≤ w) (h : w ≤ 8) : w = 1 ∨ w = 2 ∨ w = 3 ∨ w = 4 ∨ w = 5 ∨ w = 6 ∨ w = 7 ∨ w = 8 := by omega
theorem shlI (x : Int) (m : Nat) (h : m ≤ 64) : shl .i64 x (m : Int) = I64 (x * (2 : Int) ^ m) := by
 unfold shl
 rw [show min (m : Int).toNat IntKind.i64.bits = m by simp [IntKind.bits]; omega]
theorem sgnA {w : Nat} (h0 : 1 ≤ w) (h : w ≤ 8) {x : Int} (hx : in64 x) : (shr .i64 (shl .i64 x ((64 - 8 * w : Nat) : Int)) ((64 - 8 * w : Nat) : Int) != x) = badS w x := by
 obtain ⟨x0, x1⟩ := hx
 rw [shr_e .i64 _ _ (64 - 8 * w) rfl (by show 64 - 8 * w ≤ 64; omega), shlI _ _ (by omega), I64_e]
 have key : ∀ b : Bool, (b = true ↔ ((x * (2 : Int) ^ (64 - 8 * w) + 9223372036854775808) % 18446744073709551616 - 9223372036854775808) / (2 : Int) ^ (64 - 8 * w) ≠ x) → (((x * (2 : Int) ^ (64 - 8 * w) + 9223372036854775808) % 18446744073709551616 - 9223372036854775808) / (2 : Int) ^ (64 - 8 * w) != x) = b := by
  intro b hb
  cases b with
  | true => simpa using hb
  | false => simpa using hb
 apply key
 unfold badS
 rw [Bool.or_eq_true, decide_eq_true_eq, decide_eq_true_eq]
 rcases w8 h0 h with rfl | rfl | rfl | rfl | rfl | rfl | rfl | rfl
 ·rw [show (2 : Int) ^ (64 - 8 * 1) = 72057594037927936 from rfl, show p256 1 / 2 = 128 from rfl]; omega
 ·rw [show (2 : Int) ^ (64 - 8 * 2) = 281474976710656 from rfl, show p256 2 / 2 = 32768 from rfl]; omega
 ·rw [show (2 : Int) ^ (64 - 8 * 3) = 1099511627776 from rfl, show p256 3 / 2 = 8388608 from rfl]; omega
 ·rw [show (2 : Int) ^ (64 - 8 * 4) = 4294967296 from rfl, show p256 4 / 2 = 2147483648 from rfl]; omega
 ·rw [show (2 : Int) ^ (64 - 8 * 5) = 16777216 from rfl, show p256 5 / 2 = 549755813888 from rfl]; omega
 ·rw [show (2 : Int) ^ (64 - 8 * 6) = 65536 from rfl, show p256 6 / 2 = 140737488355328 from rfl]; omega
 ·rw [show (2 : Int) ^ (64 - 8 * 7) = 256 from rfl, show p256 7 / 2 = 36028797018963968 from rfl]; omega
 ·rw [show (2 : Int) ^ (64 - 8 * 8) = 1 from rfl, show p256 8 / 2 = 9223372036854775808 from rfl]; omega
theorem sgnB {w : Nat} (h0 : 1 ≤ w) (h : w ≤ 8) {x : Int} (hx : in64 x) : shr .u64 (shl .u64 (U64 x) ((64 - 8 * w : Nat) : Int)) ((64 - 8 * w : Nat) : Int) = x % p256 w := by
 obtain ⟨x0, x1⟩ := hx
 rw [shr_e .u64 _ _ (64 - 8 * w) rfl (by show 64 - 8 * w ≤ 64; omega), shl_e _ _ (64 - 8 * w) rfl (by omega), U64_e]
 rcases w8 h0 h with rfl | rfl | rfl | rfl | rfl | rfl | rfl | rfl
 ·rw [show (2 : Int) ^ (64 - 8 * 1) = 72057594037927936 from rfl, show p256 1 = 256 from rfl]; omega
 ·rw [show (2 : Int) ^ (64 - 8 * 2) = 281474976710656 from rfl, show p256 2 = 65536 from rfl]; omega
 ·rw [show (2 : Int) ^ (64 - 8 * 3) = 1099511627776 from rfl, show p256 3 = 16777216 from rfl]; omega
 ·rw [show (2 : Int) ^ (64 - 8 * 4) = 4294967296 from rfl, show p256 4 = 4294967296 from rfl]; omega
 ·rw [show (2 : Int) ^ (64 - 8 * 5) = 16777216 from rfl, show p256 5 = 1099511627776 from rfl]; omega
 ·rw [show (2 : Int) ^ (64 - 8 * 6) = 65536 from rfl, show p256 6 = 281474976710656 from rfl]; omega
 ·rw [show (2 : Int) ^ (64 - 8 * 7) = 256 from rfl, show p256 7 = 72057594037927936 from rfl]; omega
 ·rw [show (2 : Int) ^ (64 - 8 * 8) = 1 from rfl, show p256 8 = 18446744073709551616 from rfl]; omega
theorem modU (w : Nat) (h : w ≤ 8) (x : Int) : 0 ≤ x % p256 w ∧ x % p256 w < 18446744073709551616 := by
 have hp := p256_pos w
 have h1 := Int.emod_nonneg x (Int.ne_of_gt hp)
 have h2 := Int.emod_lt_of_pos x hp
 have h3 : p256 w ≤ 18446744073709551616 := by
  have : ∀ i : Fin 9, p256 i.val ≤ 18446744073709551616 := by decide
  exact this ⟨w, by omega⟩
 omega
theorem sgnP (N : Nat) (b : List Int) (w : Nat) (hw0 : 1 ≤ w) (hw : w ≤ 8) (ns : List Int) (hns : in64L ns) (hb : b.length ≤ 10000000000000) (hl : ns.length ≤ 1000000000000) (hN : 8 < N) (hlN : ns.length < N) : p_codec_Signed N b (w : Int) ns = some (sgnV b w ns) := by
 unfold p_codec_Signed
 rw [df (show ¬ (w : Int) < 1 by omega), df (show ¬ (w : Int) > 8 by omega), cond_false, letO_e, cond_false]
 have := loopPut ns (by omega) (badS w) (fun x => [x % p256 w]) (([], 3) : List Int × Int) (fun s i => s.length = i) (fun k s i => p_codec_Signed_L1 N ns (w : Int) k s i) (by intro s i h hs; simp; omega) (fun k s i h hs => by
  have hx := hns _ (List.getElem_mem h)
  have f : I64 (64 - I64 (8 * (w : Int))) = ((64 - 8 * w : Nat) : Int) := by rw [I64_id (x := 8 * (w : Int)) (by omega) (by omega), I64_id (by omega) (by omega)]; omega
  rw [p_codec_Signed_L1, letO_e, dt (by omega), cond_true, idx_at h, Option.bind_some, f, letO_e, shlO_ok .i64 (by omega), Option.bind_some, letO_e, shrO_ok .i64 (by omega), Option.bind_some, sgnA hw0 hw hx]
  cases hbg : badS w ns[i] with
  | true => rfl
  | false =>
   rw [cond_false, cond_false, letO_e, shlO_ok .u64 (by omega), Option.bind_some, letO_e, shrO_ok .u64 (by omega), Option.bind_some, sgnB hw0 hw hx, appO_ok (by simp; omega), Option.bind_some]) (fun k s => by rw [p_codec_Signed_L1, letO_e, df (by omega), cond_false]) N 0 [] rfl (by omega) (by omega)
 rw [show ((0 : Nat) : Int) = 0 from rfl, List.drop_zero, List.nil_append] at this
 rw [this, Option.bind_some]
 unfold sgnV
 cases ns.any (badS w) with
 | true => rfl
 | false =>
  rw [cond_false, cond_false]
  show Option.bind (p_codec_Put N b (w : Int) (ns.flatMap fun x => [x % p256 w])) _ = _
  rw [show (ns.flatMap fun x => [x % p256 w]) = ns.map (fun x => x % p256 w) by
   clear this hns hl hlN
   induction ns with
   | nil => rfl
   | cons a l ih => simp [List.flatMap_cons, ih]]
  rw [putP N b w hw0 hw _ (by intro y hy; obtain ⟨x, _, rfl⟩ := List.mem_map.1 hy; exact modU w hw x) hb (by simpa using hl) hN (by simpa using hlN), Option.bind_some]
theorem slcV {m : Nat} (v : Vector Int m) : slcO v.toList 0 (m : Int) = some v.toList := by
 rw [slcO_ok (by omega) (by omega) (by simp)]
 simp [List.take_of_length_le]
def vbytes {m : Nat} (v : Vector Int m) : Prop := bytesL v.toList
theorem loopList {α σ : Type} (l : List α) (hl : l.length < 9223372036854775807) (st : σ → α → σ) (I : σ → Prop) (F : Nat → σ → Int → Option σ) (hI : ∀ s a, a ∈ l → I s → I (st s a))
  (h1 : ∀ k s i (h : i < l.length), I s → F (k + 1) s (i : Int) = F k (st s l[i]) (I64 ((i : Int) + 1))) (h2 : ∀ k s, F (k + 1) s (l.length : Int) = some s) :
  ∀ (k i : Nat) (s : σ), I s → i ≤ l.length → l.length - i < k → F k s (i : Int) = some ((l.drop i).foldl st s) ∧ I ((l.drop i).foldl st s)
 | 0, i, _, _, _, h => by omega
 | k + 1, i, s, hs, hi, hk => by
  by_cases h : i < l.length
  ·rw [h1 k s i h hs, I64_s (by omega), List.drop_eq_getElem_cons h, List.foldl_cons]
   exact loopList l hl st I F hI h1 h2 k (i + 1) _ (hI s _ (List.getElem_mem h) hs) (by omega) (by omega)
  ·obtain rfl : i = l.length := by omega
   rw [h2, List.drop_length]
   exact ⟨rfl, hs⟩
theorem loopList0 {α σ : Type} (l : List α) (hl : l.length < 9223372036854775807) (st : σ → α → σ) (I : σ → Prop) (F : Nat → σ → Int → Option σ) (hI : ∀ s a, a ∈ l → I s → I (st s a))
  (h1 : ∀ k s i (h : i < l.length), I s → F (k + 1) s (i : Int) = F k (st s l[i]) (I64 ((i : Int) + 1))) (h2 : ∀ k s, F (k + 1) s (l.length : Int) = some s) {N : Nat} (hN : l.length < N) {s : σ} (hs : I s) : F N s 0 = some (l.foldl st s) ∧ I (l.foldl st s) := by
 have := loopList l hl st I F hI h1 h2 N 0 s hs (by omega) (by omega)
 rwa [List.drop_zero] at this
theorem eqL_iff {α : Type} {eq : α → α → Bool} (h : ∀ a b, eq a b = true ↔ a = b) : ∀ (l r : List α), eqL eq l r = true ↔ l = r
 | [], [] => by simp [eqL]
 | [], _ :: _ => by simp [eqL]
 | _ :: _, [] => by simp [eqL]
 | a :: l, b :: r => by simp [eqL, h, eqL_iff h l r]
theorem eqV_iff {m : Nat} (a b : Vector Int m) : eqV (fun a b => a == b) a b = true ↔ a = b := by
 unfold eqV
 rw [eqL_iff (fun a b => by simp)]
 constructor
 ·intro h
  exact Vector.toList_inj.1 h
 ·intro h; rw [h]
theorem ofInt8 {a : Int} (h : isB a) : (BitVec.ofInt 8 a).toNat = a.toNat := by
 obtain ⟨h0, h1⟩ := h
 rw [BitVec.toNat_ofInt]
 simp
 omega
theorem bxor8 {a b : Int} (ha : isB a) (hb : isB b) : bxor .u8 a b = 0 ↔ a = b := by
 have e : bxor .u8 a b = ((BitVec.ofInt 8 a ^^^ BitVec.ofInt 8 b).toNat : Int) := by
  unfold bxor
  have : (BitVec.ofInt 8 a ^^^ BitVec.ofInt 8 b).toNat < 256 := (BitVec.ofInt 8 a ^^^ BitVec.ofInt 8 b).isLt
  exact U8_id (by omega) (by show ((BitVec.ofInt 8 a ^^^ BitVec.ofInt 8 b).toNat : Int) < 256; omega)
 rw [e]
 constructor
 ·intro h
  have h1 : (BitVec.ofInt 8 a ^^^ BitVec.ofInt 8 b) = 0#8 := by
   apply BitVec.eq_of_toNat_eq
   simp only [BitVec.toNat_ofNat]
   omega
  have h2 : BitVec.ofInt 8 a = BitVec.ofInt 8 b := BitVec.xor_eq_zero_iff.1 h1
  have h3 := congrArg BitVec.toNat h2
  rw [ofInt8 ha, ofInt8 hb] at h3
  have := ha.1
  have := hb.1
  omega
 ·rintro rfl
  rw [BitVec.xor_self]
  rfl
theorem bor8 {a b : Int} (ha : isB a) (hb : isB b) : isB (bor .u8 a b) ∧ (bor .u8 a b = 0 ↔ a = 0 ∧ b = 0) := by
 refine ⟨U8_b _, ?_⟩
 have e : bor .u8 a b = ((BitVec.ofInt 8 a ||| BitVec.ofInt 8 b).toNat : Int) := by
  unfold bor
  have : (BitVec.ofInt 8 a ||| BitVec.ofInt 8 b).toNat < 256 := (BitVec.ofInt 8 a ||| BitVec.ofInt 8 b).isLt
  exact U8_id (by omega) (by show ((BitVec.ofInt 8 a ||| BitVec.ofInt 8 b).toNat : Int) < 256; omega)
 rw [e, BitVec.toNat_or, ofInt8 ha, ofInt8 hb]
 have h0 := ha.1
 have h1 := hb.1
 constructor
 ·intro h
  have h : a.toNat ||| b.toNat = 0 := by omega
  have := Nat.or_eq_zero_iff.1 h
  omega
 ·rintro ⟨rfl, rfl⟩
  rfl
theorem vext {m : Nat} {a b : Vector Int m} (h : ∀ j, j < m → a.toList.getD j 0 = b.toList.getD j 0) : a = b := by
 apply Vector.ext
 intro i hi
 have := h i hi
 rwa [getD_vec _ i hi, getD_vec _ i hi] at this
theorem concL1 (N : Nat) (ls : List (List Int)) (hl : ls.length < 1000000000) (hb : ∀ l ∈ ls, l.length ≤ 1000000000) : ∀ (k i : Nat) (t : Nat), i ≤ ls.length → ls.length - i < k → t ≤ 1000000000 * i → p_slices_Concat_byte_byte_L1 N ls k (t : Int) (i : Int) = some ((t + (ls.drop i).flatten.length : Nat) : Int)
 | 0, _, _, _, h, _ => by omega
 | k + 1, i, t, hi, hk, ht => by
  rw [p_slices_Concat_byte_byte_L1, letO_e]
  by_cases h : i < ls.length
  ·have hx := hb _ (List.getElem_mem h)
   have e : I64 ((t : Int) + (ls[i].length : Int)) = ((t + ls[i].length : Nat) : Int) := by rw [I64_id (by omega) (by omega)]; omega
   rw [dt (by omega), cond_true, idx_at h, Option.bind_some, e, letO_e, df (by omega), cond_false, I64_s (by omega), concL1 N ls hl hb k (i + 1) _ (by omega) (by omega) (by omega), List.drop_eq_getElem_cons h, List.flatten_cons, List.length_append]
   congr 2
   omega
  ·rw [df (by omega), cond_false, List.drop_of_length_le (by omega)]
   simp
theorem concP (N : Nat) (ls : List (List Int)) (hl : ls.length < 1000) (hN : ls.length < N) (hb : ∀ l ∈ ls, l.length ≤ 1000000000) : p_slices_Concat_byte_byte N ls = some ls.flatten := by
 unfold p_slices_Concat_byte_byte
 have h1 := concL1 N ls (by omega) hb N 0 0 (by omega) (by omega) (by omega)
 rw [show ((0 : Nat) : Int) = 0 from rfl, List.drop_zero, Nat.zero_add] at h1
 have hfl : ∀ (l : List (List Int)), (∀ x ∈ l, x.length ≤ 1000000000) → l.flatten.length ≤ 1000000000 * l.length := by
  intro l
  induction l with
  | nil => intro _; simp
  | cons a l ih =>
   intro h
   rw [List.flatten_cons, List.length_append, List.length_cons]
   have := h a (by simp)
   have := ih (fun x hx => h x (by simp [hx]))
   omega
 have hfl2 := hfl ls hb
 have h2 := loopList0 ls (by omega) (fun s a => s ++ a) (fun s => True) (p_slices_Concat_byte_byte_L2 N ls) (fun _ _ _ _ => trivial)
 have h3 : ∀ (k i : Nat) (s : List Int), s = (ls.take i).flatten → i ≤ ls.length → ls.length - i < k → p_slices_Concat_byte_byte_L2 N ls k s (i : Int) = some ls.flatten := by
  intro k
  induction k with
  | zero => intro i s _ _ h; omega
  | succ k ih =>
   intro i s hs hi hk
   rw [p_slices_Concat_byte_byte_L2, letO_e]
   by_cases h : i < ls.length
   ·have e1 : s ++ ls[i] = (ls.take (i + 1)).flatten := by rw [hs, List.take_succ, List.getElem?_eq_getElem h, List.flatten_append]; simp
    have e2 := hfl (ls.take (i + 1)) (fun x hx => hb x (List.mem_of_mem_take hx))
    rw [← e1, List.length_append, List.length_take] at e2
    rw [dt (by omega), cond_true, idx_at h, Option.bind_some, appO_ok (by omega), Option.bind_some, I64_s (by omega), e1]
    exact ih (i + 1) _ rfl (by omega) (by omega)
   ·rw [df (by omega), cond_false, hs, List.take_of_length_le (by omega)]
 rw [h1, Option.bind_some, growO_ok (by omega) (by omega) (by omega), Option.bind_some]
 have h4 := h3 N 0 [] (by simp) (by omega) (by omega)
 rw [show ((0 : Nat) : Int) = 0 from rfl] at h4
 rw [h4, Option.bind_some]
theorem slc3O_ok {α : Type} {l : List α} {n : Nat} (h : n ≤ l.length) : slc3O l 0 (n : Int) (n : Int) = some (l.take n) := by
 unfold slc3O
 rw [dt (show (0 : Int) ≤ 0 by omega), dt (show (0 : Int) ≤ (n : Int) by omega), dt (show (n : Int) ≤ (n : Int) by omega), dt (show (n : Int) ≤ (l.length : Int) by omega)]
 simp
def numV (b : List Int) : Int := b.foldr (fun x a => x + 256 * a) 0
theorem numV_app (x : Int) : ∀ (l : List Int), numV (l ++ [x]) = numV l + x * p256 l.length
 | [] => by simp [numV, p256]
 | a :: l => by
  have h := numV_app x l
  have e : numV (a :: l ++ [x]) = a + 256 * numV (l ++ [x]) := rfl
  have e2 : numV (a :: l) = a + 256 * numV l := rfl
  rw [e, e2, h, List.length_cons, p256_s]
  grind
theorem numV_lt : ∀ (l : List Int), bytesL l → 0 ≤ numV l ∧ numV l < p256 l.length
 | [], _ => ⟨by simp [numV], by simp [numV, p256]⟩
 | a :: l, h => by
  obtain ⟨h1, h2⟩ := numV_lt l (fun x hx => h x (by simp [hx]))
  obtain ⟨h3, h4⟩ := h a (by simp)
  have e2 : numV (a :: l) = a + 256 * numV l := rfl
  rw [e2, List.length_cons, p256_s]
  omega
theorem p256_le {i : Nat} (h : i ≤ 8) : p256 i ≤ 18446744073709551616 := by
 have : ∀ i : Fin 9, p256 i.val ≤ 18446744073709551616 := by decide
 exact this ⟨i, by omega⟩
theorem mul_bd2 {x p : Int} (hx : isB x) (hp : 0 < p) : 0 ≤ x * p ∧ x * p ≤ 255 * p := by
 have h1 := Int.mul_nonneg hx.1 (Int.le_of_lt hp)
 have h2 : x * p ≤ 255 * p := Int.mul_le_mul_of_nonneg_right (by have := hx.2; omega) (Int.le_of_lt hp)
 exact ⟨h1, h2⟩
theorem numL (N : Nat) (b : List Int) (t : List Int × Int × List Int) (ht : t.2.2 = b) (hb : bytesL b) (hl : b.length ≤ 8) : ∀ (k i : Nat), i ≤ b.length → b.length - i < k → p_codec_Reader_Num_rd_L1 N t k (numV (b.take i)) (i : Int) = some (numV b)
 | 0, _, _, h => by omega
 | k + 1, i, hi, hk => by
  rw [p_codec_Reader_Num_rd_L1, letO_e, ht]
  by_cases h : i < b.length
  ·have hx := hb _ (List.getElem_mem h)
   have f : I64 (8 * (i : Int)) = ((8 * i : Nat) : Int) := by rw [I64_id (by omega) (by omega)]; omega
   have ht' : (b.take i).length = i := by simp; omega
   have e1 : numV (b.take (i + 1)) = numV (b.take i) + b[i] * p256 i := by
    rw [List.take_succ, List.getElem?_eq_getElem h]
    have := numV_app b[i] (b.take i)
    rw [ht'] at this
    exact this
   obtain ⟨l1, l2⟩ := numV_lt (b.take i) (hb.take i)
   rw [ht'] at l2
   have hp := p256_pos i
   have hp8 : p256 (i + 1) ≤ 18446744073709551616 := p256_le (by omega)
   rw [p256_s] at hp8
   obtain ⟨m1, m2⟩ := mul_bd2 hx hp
   have e2 : shl .u64 (U64 b[i]) ((8 * i : Nat) : Int) = b[i] * p256 i := by
    rw [U64_id hx.1 (by have := hx.2; omega), shl_e _ _ (8 * i) rfl (by omega), p256_2]
    omega
   have e3 : bor .u64 (numV (b.take i)) (b[i] * p256 i) = numV (b.take i) + b[i] * p256 i := by
    rw [bor_comm, bor_dis (8 * i) m1 (by omega) l1 (by have := p256_2 i; rw [← this] at l2; push_cast; exact l2) (by omega) ?_]
    ·omega
    ·have h2 : (p256 i).toNat = 2 ^ (8 * i) := by rw [← p256_2]; rw [← Int.toNat_natCast (2 ^ (8 * i))]; congr 1
     rw [Int.toNat_mul hx.1 (Int.le_of_lt hp), h2]
     exact Nat.dvd_mul_left _ _
   rw [dt (by omega), cond_true, idx_at h, Option.bind_some, f, shlO_ok .u64 (by omega), Option.bind_some, e2, e3, ← e1, I64_s (by omega)]
   exact numL N b t ht hb hl k (i + 1) (by omega) (by omega)
  ·rw [df (by omega), cond_false, List.take_of_length_le (by omega)]
theorem modStep (x p : Int) (hp : 0 < p) : x % p + (x / p % 256) * p = x % (p * 256) := by
 have e1 : x = p * (x / p) + x % p := (Int.mul_ediv_add_emod x p).symm
 have e2 : x / p = 256 * (x / p / 256) + x / p % 256 := (Int.mul_ediv_add_emod (x / p) 256).symm
 have b1 : 0 ≤ x % p := Int.emod_nonneg _ (by omega)
 have b2 : x % p < p := Int.emod_lt_of_pos _ hp
 have b3 : 0 ≤ x / p % 256 := Int.emod_nonneg _ (by decide)
 have b4 : x / p % 256 < 256 := Int.emod_lt_of_pos _ (by decide)
 generalize x / p % 256 = c at *
 generalize x / p / 256 = q at *
 have e3 : x = (x % p + c * p) + (p * 256) * q := by
  have h1 : p * (x / p) = p * (256 * q + c) := by rw [← e2]
  rw [h1] at e1
  have : p * (256 * q + c) = (p * 256) * q + c * p := by rw [Int.mul_add, ← Int.mul_assoc, Int.mul_comm p c]
  rw [this] at e1
  omega
 have h1 : 0 ≤ c * p := Int.mul_nonneg b3 (by omega)
 have h2 : c * p ≤ 255 * p := Int.mul_le_mul_of_nonneg_right (by omega) (by omega)
 have h3 : x % (p * 256) = (x % p + c * p) % (p * 256) := by
  conv => lhs; rw [e3]
  rw [Int.add_mul_emod_self_left]
 rw [h3]
 exact (Int.emod_eq_of_lt (by omega) (by omega)).symm
theorem numLe (x : Int) : ∀ w : Nat, w ≤ 8 → numV (leB w x) = x % p256 w
 | 0, _ => by
  show (0 : Int) = x % p256 0
  rw [show p256 0 = 1 from rfl]
  omega
 | w + 1, h => by
  have e : leB (w + 1) x = leB w x ++ [U8 (shr .u64 x ((8 * w : Nat) : Int))] := by unfold leB; rw [List.range_succ, List.map_append]; rfl
  rw [e, numV_app, numLe x w (by omega), leB_len, shr8 x w (by omega), U8_e, p256_s, modStep x _ (p256_pos w)]
end Go.UK
namespace Go.UK
open Go Go.Proofs
set_option maxRecDepth 20000
set_option maxHeartbeats 2000000
set_option linter.all false
def T {α : Type} (o : Option α) (Q : α → Prop) : Prop := ∃ a, o = some a ∧ Q a
section
variable {α β : Type}
theorem T.bind {o : Option α} {f : α → Option β} {P : α → Prop} {Q : β → Prop} (h : T o P) (hf : ∀ a, P a → T (f a) Q) : T (Option.bind o f) Q := by
 obtain ⟨a, rfl, ha⟩ := h
 exact hf a ha
theorem T.ret {a : α} {Q : α → Prop} (h : Q a) : T (some a) Q := ⟨a, rfl, h⟩
theorem T.mono {o : Option α} {P Q : α → Prop} (h : T o P) (hp : ∀ a, P a → Q a) : T o Q := by obtain ⟨a, e, ha⟩ := h; exact ⟨a, e, hp a ha⟩
theorem T.cond {c : Bool} {x y : Option α} {Q : α → Prop} (h1 : c = true → T x Q) (h2 : c = false → T y Q) : T (cond c x y) Q := by cases c with | true => exact h1 rfl | false => exact h2 rfl
theorem T.letO {a : α} {f : α → Option β} {Q : β → Prop} (h : ∀ x, x = a → T (f x) Q) : T (letO a f) Q := h a rfl
theorem T.of {o : Option α} {a : α} {Q : α → Prop} (h : o = some a) (hq : Q a) : T o Q := ⟨a, h, hq⟩
theorem T.idx {l : List α} {i : Int} (h0 : 0 ≤ i) (h1 : i < (l.length : Int)) : T (idx l i) (fun e => l[i.toNat]? = some e) := by
 obtain ⟨n, rfl⟩ := Int.eq_ofNat_of_zero_le h0
 rw [idx_get?, List.getElem?_eq_getElem (by omega)]
 exact ⟨_, rfl, by rw [Int.toNat_natCast, List.getElem?_eq_getElem (by omega)]⟩
theorem T.get {l : List α} {i : Nat} (h : i < l.length) : T (l[i]?) (fun e => l[i]? = some e) := by
 rw [List.getElem?_eq_getElem h]; exact ⟨_, rfl, rfl⟩
theorem T.inRO {i : Int} {n : Nat} (h : 0 ≤ i) (h' : i < (n : Int)) : T (inRO i n) (fun _ => True) := ⟨_, inRO_ok h h', trivial⟩
theorem T.slc {l : List α} {lo hi : Int} (h0 : 0 ≤ lo) (h1 : lo ≤ hi) (h2 : hi ≤ (l.length : Int)) : T (slcO l lo hi) (fun r => r = (l.take hi.toNat).drop lo.toNat ∧ (r.length : Int) = hi - lo) := by
 refine ⟨_, slcO_ok h0 h1 h2, rfl, ?_⟩
 rw [List.length_drop, List.length_take]
 omega
end
def isU (x : Int) : Prop := 0 ≤ x ∧ x < 18446744073709551616
def allU {m : Nat} (v : Vector Int m) : Prop := ∀ x ∈ v.toList, isU x
theorem isU_U (x : Int) : isU (U64 x) := ⟨U64_lo x, U64_hi x⟩
theorem isU0 : isU 0 := ⟨by decide, by decide⟩
theorem allU.set {m : Nat} {v : Vector Int m} {i : Nat} {x : Int} (h : allU v) (hx : isU x) : allU (v.setIfInBounds i x) := by
 intro y hy
 have e : (v.setIfInBounds i x).toList = v.toList.set i x := by simp
 rw [e] at hy
 rcases List.mem_or_eq_of_mem_set hy with h' | h'
 ·exact h y h'
 ·rw [h']; exact hx
theorem vmem {α : Type} {m : Nat} (v : Vector α m) {i : Nat} (h : i < m) : v[i] ∈ v.toList := by simp
theorem T.vget {m : Nat} {v : Vector Int m} {i : Nat} (h : i < m) : T (v.toList[i]?) (fun _ => True) := ⟨_, Go.UK.vget v i h, trivial⟩
theorem T.vgetU {m : Nat} {v : Vector Int m} {i : Nat} (hv : allU v) (h : i < m) : T (v.toList[i]?) isU := ⟨_, Go.UK.vget v i h, hv _ (vmem v h)⟩
theorem T.add64 {x y c : Int} (hx : isU x) (hy : isU y) (hc : 0 ≤ c ∧ c ≤ 1) : T (p_Add64 x y c) (fun r => isU r.1 ∧ (0 ≤ r.2 ∧ r.2 ≤ 1)) := by
 obtain ⟨x0, x1⟩ := hx
 obtain ⟨y0, y1⟩ := hy
 obtain ⟨c0, c1⟩ := hc
 unfold p_Add64
 rw [dt x0, dt y0, dt c0, dt c1]
 refine ⟨_, rfl, ⟨?_, ?_⟩, ?_, ?_⟩ <;> dsimp only <;> omega
theorem mul64 (N : Nat) (a b : Int) : T (p_math_bits_Mul64 N a b) (fun r => isU r.1 ∧ isU r.2) := by
 unfold p_math_bits_Mul64
 simp only [letO_e]
 exact ⟨_, rfl, isU_U _, isU_U _⟩
theorem shr_U {k : IntKind} {a : Int} (ha : isU a) (b : Int) : isU (shr k a b) := by
 unfold shr
 rw [Int.fdiv_eq_ediv_of_nonneg _ (Int.le_of_lt (Int.pow_pos (by decide)))]
 have := Int.ediv_le_self ((2 : Int) ^ min b.toNat k.bits) ha.1
 exact ⟨Int.ediv_nonneg ha.1 (Int.le_of_lt (Int.pow_pos (by decide))), by have := ha.2; omega⟩
theorem bor_U (a b : Int) : isU (bor .u64 a b) := bor_rng a b
theorem band_U (a b : Int) : isU (band .u64 a b) := isU_U _
theorem bandn_U (a b : Int) : isU (bandn .u64 a b) := isU_U _
theorem T.loop {σ : Type} {n : Nat} (hn : n < 9223372036854775807) (I : Nat → σ → Prop) {F : Nat → σ → Int → Option σ}
  (hstep : ∀ k s i, i < n → I i s → ∀ Q : σ → Prop, (∀ s', I (i + 1) s' → T (F k s' ((i + 1 : Nat) : Int)) Q) → T (F (k + 1) s (i : Int)) Q) (hend : ∀ k s, F (k + 1) s (n : Int) = some s) :
  ∀ (k i : Nat) (s : σ), I i s → i ≤ n → n - i < k → T (F k s (i : Int)) (I n)
 | 0, i, _, _, _, h => by omega
 | k + 1, i, s, hs, hi, hk => by
  by_cases h : i < n
  ·exact hstep k s i h hs _ fun s' h' => T.loop hn I hstep hend k (i + 1) s' h' (by omega) (by omega)
  ·obtain rfl : i = n := by omega
   exact ⟨s, hend _ _, hs⟩
theorem T.loop0 {σ : Type} {n : Nat} (hn : n < 9223372036854775807) (I : Nat → σ → Prop) {F : Nat → σ → Int → Option σ}
  (hstep : ∀ k s i, i < n → I i s → ∀ Q : σ → Prop, (∀ s', I (i + 1) s' → T (F k s' ((i + 1 : Nat) : Int)) Q) → T (F (k + 1) s (i : Int)) Q) (hend : ∀ k s, F (k + 1) s (n : Int) = some s) {N : Nat} (hN : n < N) {s : σ} (hs : I 0 s) : T (F N s 0) (I n) :=
 T.loop hn I hstep hend N 0 s hs (by omega) (by omega)
theorem numC (N : Nat) (b : List Int) (h : 4 ≤ b.length) : T (p_chacha_number N b) (fun _ => True) := by
 unfold p_chacha_number
 refine T.bind (T.idx (by omega) (by omega)) fun _ _ => T.bind (T.idx (by omega) (by omega)) fun _ _ => ?_
 refine T.letO fun _ _ => T.bind (T.idx (by omega) (by omega)) fun _ _ => T.letO fun _ _ => T.bind (T.idx (by omega) (by omega)) fun _ _ => T.letO fun _ _ => T.ret trivial
theorem i4 {a i : Nat} (h : a * i < 1000000) : I64 ((a : Int) * (i : Int)) = ((a * i : Nat) : Int) := by
 have e : (a : Int) * (i : Int) = ((a * i : Nat) : Int) := by push_cast; rfl
 rw [e]; exact I64_id (by omega) (by omega)
theorem ia {a i : Nat} (h : a + i < 1000000) : I64 ((a : Int) + (i : Int)) = ((a + i : Nat) : Int) := by
 rw [I64_id (by omega) (by omega)]; omega
theorem stateT (N : Nat) (hN : 20 < N) (key : Vector Int 32) (c : Int) (n : Vector Int 12) : T (p_chacha_State N key c n) (fun _ => True) := by
 unfold p_chacha_State
 refine T.bind (T.loop0 (n := 8) (by decide) (fun _ _ => True) (F := p_chacha_State_L1 N key) (fun k s i hi _ Q hk => ?_) (fun k s => by rw [p_chacha_State_L1, df (by omega), cond_false]) (by omega) trivial) fun v _ => ?_
 ·rw [p_chacha_State_L1, dt (by omega), cond_true, show (4 : Int) = ((4 : Nat) : Int) from rfl, i4 (by omega), ia (by omega)]
  refine T.bind (T.slc (by omega) (by omega) (by simp)) fun s4 h4 => T.bind (numC N s4 (by omega)) fun r _ => T.bind (T.inRO (by omega) (by omega)) fun _ _ => T.bind (T.vget (by omega)) fun e _ => ?_
  rw [I64_s (by omega)]
  exact hk _ trivial
 refine T.bind (T.loop0 (n := 3) (by decide) (fun _ _ => True) (F := p_chacha_State_L2 N n) (fun k s i hi _ Q hk => ?_) (fun k s => by rw [p_chacha_State_L2, df (by omega), cond_false]) (by omega) trivial) fun v _ => T.ret trivial
 rw [p_chacha_State_L2, dt (by omega), cond_true, show (4 : Int) = ((4 : Nat) : Int) from rfl, i4 (by omega), show (13 : Int) = ((13 : Nat) : Int) from rfl, ia (by omega)]
 refine T.bind (T.slc (by omega) (by omega) (by simp)) fun s4 h4 => T.bind (numC N s4 (by omega)) fun r _ => T.bind (T.inRO (by omega) (by omega)) fun _ _ => T.bind (T.vget (by omega)) fun e _ => ?_
 rw [I64_s (by omega)]
 exact hk _ trivial
theorem rotT (N : Nat) (x : Int) (n : Nat) (h1 : 1 ≤ n) (h2 : n ≤ 31) : T (p_math_bits_RotateLeft32 N x (n : Int)) (fun _ => True) := by
 have b : ∀ n : Fin 32, band .u64 (U64 (n.val : Int)) 31 = (n.val : Int) := by decide +kernel
 have hb : band .u64 (U64 (n : Int)) 31 = (n : Int) := b ⟨n, by omega⟩
 unfold p_math_bits_RotateLeft32
 rw [hb, shlO_ok .u32 (by omega), Option.bind_some, letO_e, U64_id (by omega) (by omega), shrO_ok .u32 (by omega)]
 exact T.ret trivial
theorem quarterT (N : Nat) (v : Vector Int 4) : T (p_chacha_Quarter N v) (fun _ => True) := by
 unfold p_chacha_Quarter
 refine T.bind (T.idx (by omega) (by simp)) fun _ _ => T.bind (T.idx (by omega) (by simp)) fun _ _ => T.bind (T.idx (by omega) (by simp)) fun _ _ => T.bind (T.idx (by omega) (by simp)) fun _ _ => ?_
 refine T.letO fun _ _ => T.bind (rotT N _ 16 (by decide) (by decide)) fun _ _ => T.letO fun _ _ => T.bind (rotT N _ 12 (by decide) (by decide)) fun _ _ => T.letO fun _ _ => T.bind (rotT N _ 8 (by decide) (by decide)) fun _ _ => T.letO fun _ _ => T.bind (rotT N _ 7 (by decide) (by decide)) fun _ _ => T.ret trivial
def places : List (Vector Int 4) := (#v[#v[0, 4, 8, 12], #v[1, 5, 9, 13], #v[2, 6, 10, 14], #v[3, 7, 11, 15], #v[0, 5, 10, 15], #v[1, 6, 11, 12], #v[2, 7, 8, 13], #v[3, 4, 9, 14]] : Vector (Vector Int 4) 8).toList
theorem places_in : ∀ v ∈ places, ∀ x ∈ v.toList, 0 ≤ x ∧ x < 16 := by unfold places; decide
theorem T.place {v : Vector Int 4} (hv : v ∈ places) {i : Nat} (h : i < 4) : T (v.toList[i]?) (fun x => 0 ≤ x ∧ x < 16) :=
 ⟨_, Go.UK.vget v i h, places_in v hv _ (vmem v h)⟩
theorem block2T (N : Nat) (hN : 20 < N) (s : Vector Int 16) : T (p_chacha_Block_L2 N N s 0) (fun _ => True) := by
 refine T.loop0 (n := 8) (by decide) (fun _ _ => True) (F := p_chacha_Block_L2 N) (fun k s i hi _ Q hk => ?_) (fun k s => by rw [p_chacha_Block_L2, df (by omega), cond_false]) (by omega) trivial
 rw [p_chacha_Block_L2, dt (by omega), cond_true]
 refine T.bind (T.idx (by omega) (by simp; omega)) fun e8 he => ?_
 have hm : e8 ∈ places := List.mem_of_getElem? he
 iterate 4 refine T.bind (T.inRO (by decide) (by decide)) fun _ _ => T.bind (T.place hm (by decide)) fun _ h => T.bind (T.inRO h.1 h.2) fun _ _ => T.bind (T.vget (by omega)) fun _ _ => ?_
 refine T.bind (quarterT N _) fun r25 _ => ?_
 refine T.bind (T.inRO (by decide) (by decide)) fun _ _ => T.bind (T.place hm (by decide)) fun _ h0 => ?_
 refine T.bind (T.inRO (by decide) (by decide)) fun _ _ => T.bind (T.place hm (by decide)) fun _ h1 => ?_
 refine T.bind (T.inRO (by decide) (by decide)) fun _ _ => T.bind (T.place hm (by decide)) fun _ h2 => ?_
 refine T.bind (T.inRO (by decide) (by decide)) fun _ _ => T.bind (T.place hm (by decide)) fun _ h3 => ?_
 iterate 4 refine T.bind (T.inRO (by decide) (by decide)) fun _ _ => T.bind (T.vget (by decide)) fun _ _ => ?_
 refine T.bind (T.inRO h0.1 h0.2) fun _ _ => T.bind (T.vget (by omega)) fun _ _ => T.bind (T.inRO h1.1 h1.2) fun _ _ => T.bind (T.vget (by omega)) fun _ _ => T.bind (T.inRO h2.1 h2.2) fun _ _ => T.bind (T.vget (by omega)) fun _ _ => T.bind (T.inRO h3.1 h3.2) fun _ _ => T.bind (T.vget (by omega)) fun _ _ => ?_
 rw [I64_s (by omega)]
 exact hk _ trivial
theorem blockT (N : Nat) (hN : 20 < N) (key : Vector Int 32) (c : Int) (n : Vector Int 12) : T (p_chacha_Block N key c n) (fun _ => True) := by
 unfold p_chacha_Block
 refine T.bind (stateT N hN key c n) fun r1 _ => ?_
 refine T.bind (T.loop0 (n := 10) (by decide) (fun _ _ => True) (F := p_chacha_Block_L1 N) (fun k s i hi _ Q hk => ?_) (fun k s => by rw [p_chacha_Block_L1, df (by omega), cond_false]) (by omega) trivial) fun p2 _ => ?_
 ·rw [p_chacha_Block_L1, dt (by omega), cond_true, I64_s (by omega)]
  exact T.bind (block2T N hN s) fun _ _ => hk _ trivial
 refine T.bind (T.loop0 (n := 16) (by decide) (fun _ _ => True) (F := p_chacha_Block_L3 N p2 r1) (fun k s i hi _ Q hk => ?_) (fun k s => by rw [p_chacha_Block_L3, df (by omega), cond_false]) (by omega) trivial) fun p3 _ => T.ret trivial
 rw [p_chacha_Block_L3, dt (by omega), cond_true, show (4 : Int) = ((4 : Nat) : Int) from rfl, i4 (by omega)]
 have f1 : I64 (((4 * i : Nat) : Int) + 1) = ((4 * i + 1 : Nat) : Int) := by rw [I64_id (by omega) (by omega)]; omega
 have f2 : I64 (((4 * i : Nat) : Int) + 2) = ((4 * i + 2 : Nat) : Int) := by rw [I64_id (by omega) (by omega)]; omega
 have f3 : I64 (((4 * i : Nat) : Int) + 3) = ((4 * i + 3 : Nat) : Int) := by rw [I64_id (by omega) (by omega)]; omega
 refine T.bind (T.idx (by omega) (by simp; omega)) fun _ _ => T.bind (T.inRO (by omega) (by omega)) fun _ _ => T.bind (T.vget (by omega)) fun _ _ => ?_
 simp only [letO_e, f1, f2, f3]
 iterate 4 refine T.bind (T.inRO (by omega) (by omega)) fun _ _ => T.bind (T.vget (by omega)) fun _ _ => ?_
 rw [I64_s (by omega)]
 exact hk _ trivial
end Go.UK
namespace Go.UK
open Go Go.Proofs
set_option maxRecDepth 20000
set_option maxHeartbeats 4000000
set_option linter.all false
theorem isU5 : isU 5 := ⟨by decide, by decide⟩
theorem allU3 {a b c : Int} (ha : isU a) (hb : isU b) (hc : isU c) : allU (#v[a, b, c] : Vector Int 3) := by
 intro x hx
 simp at hx
 rcases hx with rfl | rfl | rfl <;> assumption
theorem numPT (N : Nat) (hN : 20 < N) (b : List Int) (h : 8 ≤ b.length) : T (p_poly_number N b) isU := by
 unfold p_poly_number
 refine T.bind (T.loop0 (n := 8) (by decide) (fun _ x => isU x) (F := p_poly_number_L1 N b) (fun k s i hi _ Q hk => ?_) (fun k s => by rw [p_poly_number_L1, df (by omega), cond_false]) (by omega) isU0) fun v h => T.ret h
 rw [p_poly_number_L1, dt (by omega), cond_true, show (8 : Int) = ((8 : Nat) : Int) from rfl, i4 (by omega)]
 refine T.bind (T.idx (by omega) (by omega)) fun e _ => ?_
 rw [shlO_ok .u64 (by omega), Option.bind_some, I64_s (by omega)]
 exact hk _ (bor_U _ _)
attribute [local irreducible] inRO idx slcO p_Add64 p_math_bits_Mul64 p_poly_number letO
theorem add_rdd_q (N : Nat) (a0 a1 : Int) (a2 : S_poly_Mac) (h1 : isU a0) (h2 : isU a1) (h3 : allU a2.gsum.gh) : T (p_poly_sum_add_rdd_q N a0 a1 a2) allU := by
 unfold p_poly_sum_add_rdd_q
 repeat' first
  | refine T.bind (T.inRO (by decide) (by decide)) fun _ _ => ?_
  | refine T.bind (T.vgetU (by repeat first | assumption | refine allU.set ?_ ?_ | exact isU_U _ | refine allU3 ?_ ?_ ?_ | exact band_U _ _) (by decide)) fun _ _ => ?_
  | refine T.bind (T.add64 (by first | assumption | exact isU_U _ | exact isU0 | exact isU5 | exact bor_U _ _ | exact band_U _ _ | exact bandn_U _ _ | (refine shr_U ?_ _; first | assumption | exact bor_U _ _)) (by first | assumption | exact isU_U _ | exact isU0 | exact isU5 | exact bor_U _ _ | exact band_U _ _ | exact bandn_U _ _ | (refine shr_U ?_ _; first | assumption | exact bor_U _ _)) (by first | assumption | exact ⟨by decide, by decide⟩)) fun _ ⟨_, _⟩ => ?_
  | refine T.bind (mul64 N _ _) fun _ ⟨_, _⟩ => ?_
  | refine T.bind (T.slc (by decide) (by decide) (by simp)) fun _ hs => T.bind (numPT N hN _ (by have := hs.2; omega)) fun _ _ => ?_
  | refine T.bind (T.idx (by decide) (by simp)) fun _ _ => ?_
  | refine T.letO fun _ hx => ?_
  | refine T.bind (T.ret trivial) fun _ _ => ?_
 exact T.ret (allU.set (allU.set (allU.set (by assumption) (by assumption)) (by assumption)) (isU_U _))
theorem add_rdd_q_q (N : Nat) (a0 a1 : Int) (a2 : S_poly_sum) (h1 : isU a0) (h2 : isU a1) (h3 : allU a2.gh) : T (p_poly_sum_add_rdd_q_q N a0 a1 a2) allU := by
 unfold p_poly_sum_add_rdd_q_q
 repeat' first
  | refine T.bind (T.inRO (by decide) (by decide)) fun _ _ => ?_
  | refine T.bind (T.vgetU (by repeat first | assumption | refine allU.set ?_ ?_ | exact isU_U _ | refine allU3 ?_ ?_ ?_ | exact band_U _ _) (by decide)) fun _ _ => ?_
  | refine T.bind (T.add64 (by first | assumption | exact isU_U _ | exact isU0 | exact isU5 | exact bor_U _ _ | exact band_U _ _ | exact bandn_U _ _ | (refine shr_U ?_ _; first | assumption | exact bor_U _ _)) (by first | assumption | exact isU_U _ | exact isU0 | exact isU5 | exact bor_U _ _ | exact band_U _ _ | exact bandn_U _ _ | (refine shr_U ?_ _; first | assumption | exact bor_U _ _)) (by first | assumption | exact ⟨by decide, by decide⟩)) fun _ ⟨_, _⟩ => ?_
  | refine T.bind (mul64 N _ _) fun _ ⟨_, _⟩ => ?_
  | refine T.bind (T.slc (by decide) (by decide) (by simp)) fun _ hs => T.bind (numPT N hN _ (by have := hs.2; omega)) fun _ _ => ?_
  | refine T.bind (T.idx (by decide) (by simp)) fun _ _ => ?_
  | refine T.letO fun _ hx => ?_
  | refine T.bind (T.ret trivial) fun _ _ => ?_
 exact T.ret (allU.set (allU.set (allU.set (by assumption) (by assumption)) (by assumption)) (isU_U _))
attribute [local irreducible] p_poly_sum_add_rdd_q p_poly_sum_add_rdd_q_q
theorem step_rddd_q (N : Nat) (hN : 20 < N) (b : Vector Int 17) (r0 r1 : Int) (m : S_poly_Mac) (hm : allU m.gsum.gh) : T (p_poly_sum_step_rddd_q N b r0 r1 m) (fun r => allU r.1 ∧ r.2 = (m.gmade, m.gr0, m.gr1, m.gs0, m.gs1, m.grest, m.gall)) := by
 unfold p_poly_sum_step_rddd_q
 repeat' first
  | refine T.bind (T.inRO (by decide) (by decide)) fun _ _ => ?_
  | refine T.bind (T.vgetU (by repeat first | assumption | refine allU.set ?_ ?_ | exact isU_U _ | refine allU3 ?_ ?_ ?_ | exact band_U _ _) (by decide)) fun _ _ => ?_
  | refine T.bind (T.add64 (by first | assumption | exact isU_U _ | exact isU0 | exact isU5 | exact bor_U _ _ | exact band_U _ _ | exact bandn_U _ _ | (refine shr_U ?_ _; first | assumption | exact bor_U _ _)) (by first | assumption | exact isU_U _ | exact isU0 | exact isU5 | exact bor_U _ _ | exact band_U _ _ | exact bandn_U _ _ | (refine shr_U ?_ _; first | assumption | exact bor_U _ _)) (by first | assumption | exact ⟨by decide, by decide⟩)) fun _ ⟨_, _⟩ => ?_
  | refine T.bind (mul64 N _ _) fun _ ⟨_, _⟩ => ?_
  | refine T.bind (T.slc (by decide) (by decide) (by simp)) fun _ hs => T.bind (numPT N hN _ (by have := hs.2; omega)) fun _ _ => ?_
  | refine T.bind (T.idx (by decide) (by simp)) fun _ _ => ?_
  | refine T.bind (add_rdd_q N _ _ _ (by first | assumption | exact isU_U _ | exact isU0 | exact isU5 | exact bor_U _ _ | (subst_vars; exact bor_U _ _) | exact band_U _ _ | exact bandn_U _ _ | (refine shr_U ?_ _; first | assumption | exact bor_U _ _)) (by first | assumption | exact isU_U _ | exact isU0 | exact isU5 | exact bor_U _ _ | exact band_U _ _ | exact bandn_U _ _ | (refine shr_U ?_ _; first | assumption | exact bor_U _ _)) (by repeat first | assumption | refine allU.set ?_ ?_ | exact isU_U _ | refine allU3 ?_ ?_ ?_ | exact band_U _ _)) fun _ _ => ?_
  | refine T.letO fun _ hx => ?_
  | refine T.bind (T.ret trivial) fun _ _ => ?_
 exact T.ret ⟨by assumption, rfl⟩
theorem step_rddd_q_q (N : Nat) (hN : 20 < N) (b : Vector Int 17) (r0 r1 : Int) (m : S_poly_sum) (hm : allU m.gh) : T (p_poly_sum_step_rddd_q_q N b r0 r1 m) allU := by
 unfold p_poly_sum_step_rddd_q_q
 repeat' first
  | refine T.bind (T.inRO (by decide) (by decide)) fun _ _ => ?_
  | refine T.bind (T.vgetU (by repeat first | assumption | refine allU.set ?_ ?_ | exact isU_U _ | refine allU3 ?_ ?_ ?_ | exact band_U _ _) (by decide)) fun _ _ => ?_
  | refine T.bind (T.add64 (by first | assumption | exact isU_U _ | exact isU0 | exact isU5 | exact bor_U _ _ | exact band_U _ _ | exact bandn_U _ _ | (refine shr_U ?_ _; first | assumption | exact bor_U _ _)) (by first | assumption | exact isU_U _ | exact isU0 | exact isU5 | exact bor_U _ _ | exact band_U _ _ | exact bandn_U _ _ | (refine shr_U ?_ _; first | assumption | exact bor_U _ _)) (by first | assumption | exact ⟨by decide, by decide⟩)) fun _ ⟨_, _⟩ => ?_
  | refine T.bind (mul64 N _ _) fun _ ⟨_, _⟩ => ?_
  | refine T.bind (T.slc (by decide) (by decide) (by simp)) fun _ hs => T.bind (numPT N hN _ (by have := hs.2; omega)) fun _ _ => ?_
  | refine T.bind (T.idx (by decide) (by simp)) fun _ _ => ?_
  | refine T.bind (add_rdd_q_q N _ _ _ (by first | assumption | exact isU_U _ | exact isU0 | exact isU5 | exact bor_U _ _ | (subst_vars; exact bor_U _ _) | exact band_U _ _ | exact bandn_U _ _ | (refine shr_U ?_ _; first | assumption | exact bor_U _ _)) (by first | assumption | exact isU_U _ | exact isU0 | exact isU5 | exact bor_U _ _ | exact band_U _ _ | exact bandn_U _ _ | (refine shr_U ?_ _; first | assumption | exact bor_U _ _)) (by repeat first | assumption | refine allU.set ?_ ?_ | exact isU_U _ | refine allU3 ?_ ?_ ?_ | exact band_U _ _)) fun _ _ => ?_
  | refine T.letO fun _ hx => ?_
  | refine T.bind (T.ret trivial) fun _ _ => ?_
 exact T.ret (by assumption)
end Go.UK
namespace Go.UK
open Go Go.Proofs
set_option maxRecDepth 20000
set_option maxHeartbeats 1000000
set_option linter.all false
theorem T.vec {α : Type} {n : Nat} {l : List α} (h : n ≤ l.length) : T (vecO n l) (fun v => v.toList = l.take n) := by
 unfold vecO
 rw [dif_pos h]
 exact ⟨_, rfl, by simp⟩
theorem T.app {α : Type} {b : Nat} {l r : List α} (h : (l.length + r.length) * b ≤ 140737488355328) : T (appO b l r) (fun x => x = l ++ r) := ⟨_, appO_ok h, rfl⟩
theorem imin_nat (a b : Nat) : imin (a : Int) (b : Int) = ((min a b : Nat) : Int) := by unfold imin; split <;> omega
theorem clampT (N : Nat) (hN : 20 < N) (v : Vector Int 16) : T (p_poly_Clamp N v) (fun _ => True) := by
 unfold p_poly_Clamp
 refine T.bind (T.loop0 (n := 4) (by decide) (fun _ _ => True) (F := p_poly_Clamp_L1 N) (fun k s i hi _ Q hk => ?_) (fun k s => by rw [p_poly_Clamp_L1, df (by omega), cond_false]) (by omega) trivial) fun v _ => T.ret trivial
 rw [p_poly_Clamp_L1, dt (by omega), cond_true, show (4 : Int) = ((4 : Nat) : Int) from rfl, i4 (by omega)]
 have f3 : I64 (((4 * i : Nat) : Int) + 3) = ((4 * i + 3 : Nat) : Int) := by rw [I64_id (by omega) (by omega)]; omega
 rw [f3]
 refine T.bind (P := fun _ => True) ?_ fun _ _ => by rw [I64_s (by omega)]; exact hk _ trivial
 refine T.letO fun x hx => ?_
 subst hx
 refine T.bind (T.inRO (by omega) (by omega)) fun _ _ => T.bind (T.vget (by omega)) fun _ _ => T.bind (T.inRO (by omega) (by omega)) fun _ _ => T.bind (T.vget (by omega)) fun _ _ => ?_
 refine T.cond (fun _ => ?_) (fun _ => T.ret trivial)
 exact T.bind (T.inRO (by omega) (by omega)) fun _ _ => T.bind (T.vget (by omega)) fun _ _ => T.bind (T.inRO (by omega) (by omega)) fun _ _ => T.bind (T.vget (by omega)) fun _ _ => T.ret trivial
theorem newT (N : Nat) (hN : 20 < N) (key : Vector Int 32) : T (p_poly_New N key) (fun r => isU r.1 ∧ isU r.2.1 ∧ isU r.2.2.1 ∧ isU r.2.2.2) := by
 unfold p_poly_New
 refine T.bind (T.slc (by decide) (by decide) (by simp)) fun s1 h1 => T.bind (T.vec (by have := h1.2; omega)) fun v2 _ => T.bind (clampT N hN v2) fun r3 _ => ?_
 refine T.bind (T.slc (by decide) (by decide) (by simp)) fun s4 h4 => T.bind (numPT N hN s4 (by have := h4.2; omega)) fun r5 h5 => ?_
 refine T.bind (T.slc (by decide) (by decide) (by simp)) fun s6 h6 => T.bind (numPT N hN s6 (by have := h6.2; omega)) fun r7 h7 => ?_
 refine T.bind (T.slc (by decide) (by decide) (by simp)) fun s8 h8 => T.bind (numPT N hN s8 (by have := h8.2; omega)) fun r9 h9 => ?_
 refine T.bind (T.slc (by decide) (by decide) (by simp)) fun s10 h10 => T.bind (numPT N hN s10 (by have := h10.2; omega)) fun r11 h11 => ?_
 exact T.ret ⟨h5, h7, h9, h11⟩
theorem cpV17 (s : List Int) : ∃ v, cpV (Vector.replicate 17 (0 : Int)) s 0 16 = some v := by
 unfold cpV
 rw [dif_pos (by decide)]
 exact ⟨_, rfl⟩
theorem blocksL (N : Nat) : ∀ (k : Nat) (s : List (Vector Int 17)) (m : List Int), m.length < k → m.length ≤ 65536 → s.length ≤ 1000000 - m.length → T (p_poly_Blocks_L1 N k s m) (fun r => r.length = s.length + (m.length + 15) / 16)
 | 0, _, _, h, _, _ => by omega
 | k + 1, s, m, h, hm, hs => by
  rw [p_poly_Blocks_L1]
  refine T.letO fun x hx => ?_
  subst hx
  refine T.cond (fun hc => ?_) (fun hc => ?_)
  ·have hc : 0 < m.length := by simpa using hc
   refine T.bind (o := slcB 17 0 16) ⟨(), rfl, trivial⟩ fun _ (_ : True) => ?_
   obtain ⟨v, hv⟩ := cpV17 m
   rw [hv, Option.bind_some]
   refine T.letO fun x hx => ?_
   subst hx
   refine T.bind (T.inRO (by omega) (by omega)) fun _ _ => T.bind (T.vget (by omega)) fun _ _ => T.bind (T.app (by simp; omega)) fun z hz => ?_
   subst hz
   refine T.bind (T.slc (by omega) (by omega) (by omega)) fun s14 h14 => ?_
   have h15 := h14.2
   refine T.mono (blocksL N k _ s14 (by omega) (by omega) (by simp; omega)) fun r hr => ?_
   simp at hr
   omega
  ·have hc : m.length = 0 := by have := of_decide_eq_false hc; omega
   exact T.ret (by omega)
theorem blocksT (N : Nat) (m : List Int) (h : m.length < N) (hm : m.length ≤ 65536) : T (p_poly_Blocks N m) (fun r => r.length = (m.length + 15) / 16) := by
 unfold p_poly_Blocks
 refine T.letO fun x hx => ?_
 have hx : x = (m.length : Int) := by rw [hx]; unfold imin; split <;> omega
 subst hx
 refine T.bind (T.slc (by omega) (by omega) (by omega)) fun s3 h3 => ?_
 have := h3.2
 refine T.bind (blocksL N N [] s3 (by omega) (by omega) (by rw [List.length_nil]; omega)) fun r hr => T.ret ?_
 rw [List.length_nil] at hr
 omega
theorem addL1 (N : Nat) (ms : List (List Int)) (hms : ms.length < 1000) : ∀ (k i : Nat) (s : List Int) (n : Nat), i ≤ ms.length → ms.length - i < k → n ≤ 65536 → s.length ≤ n → T (p_poly_Mac_Add_rd_L1 N ms k s (n : Int) (i : Int)) (fun r => r.1.length ≤ 65536)
 | 0, _, _, _, _, h, _, _ => by omega
 | k + 1, i, s, n, hi, hk, hn, hs => by
  rw [p_poly_Mac_Add_rd_L1, letO_e]
  by_cases h : i < ms.length
  ·rw [dt (by omega), cond_true]
   refine T.bind (T.idx (by omega) (by omega)) fun e6 h6 => ?_
   have f : I64 (65536 - (n : Int)) = ((65536 - n : Nat) : Int) := by rw [I64_id (by omega) (by omega)]; omega
   rw [f, letO_e, imin_nat]
   refine T.bind (T.slc (by omega) (by omega) (by omega)) fun s9 h9 => ?_
   have h10 := h9.2
   rw [letO_e]
   refine T.bind (T.app (by omega)) fun z hz => ?_
   subst hz
   have f2 : I64 ((n : Int) + (s9.length : Int)) = ((n + s9.length : Nat) : Int) := by rw [I64_id (by omega) (by omega)]; omega
   rw [f2, I64_s (by omega)]
   exact addL1 N ms hms k (i + 1) _ _ (by omega) (by omega) (by omega) (by rw [List.length_append]; omega)
  ·rw [df (by omega), cond_false]
   exact T.ret (by dsimp only; omega)
theorem addL2 (N : Nat) (hN : 20 < N) : ∀ (k : Nat) (h : Vector Int 3) (made : Bool) (r0 r1 s0 s1 : Int) (rest : List Int) (all : Int), allU h → rest.length < k → rest.length ≤ 65536 →
  T (p_poly_Mac_Add_rd_L2 N k h made r0 r1 s0 s1 rest all) (fun r => allU r.1 ∧ r.2.1 = made ∧ r.2.2.1 = r0 ∧ r.2.2.2.1 = r1 ∧ r.2.2.2.2.1 = s0 ∧ r.2.2.2.2.2.1 = s1 ∧ r.2.2.2.2.2.2.1.length < 16)
 | 0, _, _, _, _, _, _, _, _, _, h, _ => by omega
 | k + 1, h, made, r0, r1, s0, s1, rest, all, hh, hk, hl => by
  rw [p_poly_Mac_Add_rd_L2]
  refine T.letO fun x hx => ?_
  subst hx
  refine T.cond (fun hc => ?_) (fun hc => ?_)
  ·have hc : 16 ≤ rest.length := by have := of_decide_eq_true hc; omega
   refine T.bind (T.slc (by omega) (by omega) (by omega)) fun s22 h22 => ?_
   have h23 := h22.2
   refine T.bind (blocksT N s22 (by omega) (by omega)) fun r23 hr => T.bind (T.idx (by omega) (by omega)) fun e24 _ => ?_
   refine T.bind (step_rddd_q N hN e24 r0 r1 _ hh) fun r25 hr25 => ?_
   obtain ⟨g1, g2⟩ := hr25
   obtain ⟨h', q⟩ := r25
   dsimp only at g1 g2
   subst g2
   dsimp only
   refine T.bind (T.slc (by omega) (by omega) (by omega)) fun s26 h26 => ?_
   have := h26.2
   exact addL2 N hN k h' made r0 r1 s0 s1 s26 all g1 (by omega) (by omega)
  ·have hc : rest.length < 16 := by have := of_decide_eq_false hc; omega
   exact T.ret ⟨hh, rfl, rfl, rfl, rfl, rfl, hc⟩
theorem z16 : vbytes (Vector.replicate 16 (0 : Int)) := by unfold vbytes bytesL isB; decide
theorem endT (N : Nat) (hN : 20 < N) (h : Vector Int 3) (hh : allU h) (s0 s1 : Int) (h0 : isU s0) (h1 : isU s1) : T (p_poly_sum_end N (S_poly_sum.mk h) s0 s1) vbytes := by
 unfold p_poly_sum_end
 refine T.bind (T.loop0 (n := 2) (by decide) (fun _ (v : Vector Int 3) => allU v) (F := p_poly_sum_end_L1 N) (fun k s i hi hs Q hk => ?_) (fun k s => by rw [p_poly_sum_end_L1, df (by omega), cond_false]) (by omega) hh) fun p1 hp => ?_
 ·rw [p_poly_sum_end_L1, dt (by omega), cond_true, I64_s (by omega)]
  refine T.bind (P := allU) ?_ fun v hv => hk v hv
  refine T.bind (T.inRO (by decide) (by decide)) fun _ _ => T.bind (T.vgetU hs (by decide)) fun e6 h6 => T.bind (T.add64 h6 isU5 ⟨by decide, by decide⟩) fun r7 h7 => ?_
  refine T.bind (T.inRO (by decide) (by decide)) fun _ _ => T.bind (T.vgetU hs (by decide)) fun e9 h9 => T.bind (T.add64 h9 isU0 h7.2) fun r10 h10 => ?_
  refine T.bind (T.inRO (by decide) (by decide)) fun _ _ => T.bind (T.vgetU hs (by decide)) fun e12 h12 => ?_
  refine T.letO fun _ _ => T.cond (fun _ => T.letO fun _ _ => T.ret (allU3 h7.1 h10.1 (isU_U _))) (fun _ => T.ret hs)
 refine T.bind (T.inRO (by decide) (by decide)) fun _ _ => T.bind (T.vgetU hp (by decide)) fun e17 h17 => T.bind (T.add64 h17 h0 ⟨by decide, by decide⟩) fun r18 h18 => ?_
 refine T.bind (T.inRO (by decide) (by decide)) fun _ _ => T.bind (T.vgetU hp (by decide)) fun e20 h20 => T.bind (T.add64 h20 h1 h18.2) fun r21 h21 => ?_
 refine T.bind (T.loop0 (n := 8) (by decide) (fun _ (v : Vector Int 16) => vbytes v) (F := p_poly_sum_end_L2 N r18 r21) (fun k s i hi hs Q hk => ?_) (fun k s => by rw [p_poly_sum_end_L2, df (by omega), cond_false]) (by omega) z16) fun p22 h22 => T.ret h22
 have vset : ∀ (v : Vector Int 16) (i : Nat) (x : Int), vbytes v → vbytes (v.setIfInBounds i (U8 x)) := by
  intro v i x hv y hy
  have e : (v.setIfInBounds i (U8 x)).toList = v.toList.set i (U8 x) := by simp
  rw [e] at hy
  rcases List.mem_or_eq_of_mem_set hy with h' | h'
  ·exact hv y h'
  ·rw [h']; exact U8_b _
 rw [p_poly_sum_end_L2, dt (by omega), cond_true, show (8 : Int) = ((8 : Nat) : Int) from rfl, i4 (by omega), ia (by omega), I64_s (by omega)]
 rw [shrO_ok .u64 (by omega), Option.bind_some, shrO_ok .u64 (by omega), Option.bind_some]
 refine T.bind (T.inRO (by omega) (by omega)) fun _ _ => T.bind (T.vget (by omega)) fun _ _ => T.bind (T.inRO (by omega) (by omega)) fun _ _ => T.bind (T.vget (by omega)) fun _ _ => ?_
 exact hk _ (vset _ _ _ (vset _ _ _ hs))
theorem sumT (N : Nat) (hN : 2000 < N) (m : S_poly_Mac) (hh : allU m.gsum.gh) (h0 : isU m.gs0) (h1 : isU m.gs1) (hr : m.grest.length ≤ 100) (hm : m.gmade = true) : T (p_poly_Mac_Sum_r N m) vbytes := by
 unfold p_poly_Mac_Sum_r
 rw [hm, Bool.not_true, cond_false]
 refine T.bind (blocksT N m.grest (by omega) (by omega)) fun r1 hr1 => ?_
 refine T.bind (T.loop0 (n := r1.length) (by omega) (fun _ (v : Vector Int 3) => allU v) (F := p_poly_Mac_Sum_r_L1 N r1 m) (fun k s i hi hs Q hk => ?_) (fun k s => by rw [p_poly_Mac_Sum_r_L1, letO_e, df (by omega), cond_false]) (by omega) hh) fun p2 hp2 => ?_
 ·rw [p_poly_Mac_Sum_r_L1, letO_e, dt (by omega), cond_true, I64_s (by omega)]
  exact T.bind (T.idx (by omega) (by omega)) fun e6 _ => T.bind (step_rddd_q_q N (by omega) e6 _ _ (S_poly_sum.mk s) hs) fun r7 h7 => hk r7 h7
 exact T.bind (endT N (by omega) p2 hp2 _ _ h0 h1) fun r8 h8 => T.ret h8
theorem tagT (N : Nat) (hN : 2000 < N) (key : Vector Int 32) (ms : List (List Int)) (hms : ms.length < 1000) (hl : 65536 < N) : T (p_poly_Tag N key ms) vbytes := by
 unfold p_poly_Tag
 refine T.bind (newT N (by omega) key) fun r1 h1 => ?_
 obtain ⟨u1, u2, u3, u4⟩ := h1
 refine T.bind (P := fun r => allU r.2.1 ∧ r.2.2.1 = true ∧ r.2.2.2.2.2.1 = r1.2.2.1 ∧ r.2.2.2.2.2.2.1 = r1.2.2.2 ∧ r.2.2.2.2.2.2.2.1.length < 16) ?_ fun r2 h2 => ?_
 ·unfold p_poly_Mac_Add_rd
  rw [Bool.not_true, cond_false]
  refine T.bind (addL1 N ms hms N 0 [] 0 (by omega) (by omega) (by omega) (by simp)) fun p1 hp1 => ?_
  refine T.bind (addL2 N (by omega) N _ true _ _ _ _ p1.1 p1.2 (allU3 isU0 isU0 isU0) (by omega) hp1) fun p12 hp => T.ret ?_
  obtain ⟨g1, g2, g3, g4, g5, g6, g7⟩ := hp
  exact ⟨g1, g2, g5, g6, g7⟩
 ·obtain ⟨g1, g2, g5, g6, g7⟩ := h2
  exact T.bind (sumT N hN _ g1 (by dsimp only; rw [g5]; exact u3) (by dsimp only; rw [g6]; exact u4) (by dsimp only; omega) g2) fun r3 h3 => T.ret h3
end Go.UK
namespace Go.UK
open Go Go.Proofs
set_option maxRecDepth 20000
set_option maxHeartbeats 1000000
set_option linter.all false
theorem keyT (N : Nat) (hN : 20 < N) (key : Vector Int 32) (n : Vector Int 12) : T (p_aead_Key N key n) (fun _ => True) := by
 unfold p_aead_Key
 exact T.bind (blockT N hN key 0 n) fun r1 _ => T.bind (T.slc (by decide) (by decide) (by simp)) fun s3 h3 => T.bind (T.vec (by have := h3.2; omega)) fun _ _ => T.ret trivial
theorem fillT (N : Nat) (l : List Int) (hl : l.length ≤ 1000000) : T (p_aead_Mac_1 N l) (fun r => r.length ≤ 16) := by
 unfold p_aead_Mac_1
 refine T.letO fun x hx => T.letO fun y hy => ?_
 have hx1 : x = ((l.length % 16 : Nat) : Int) := by rw [hx]; rfl
 have hy1 : y = (((16 - l.length % 16) % 16 : Nat) : Int) := by
  have e : I64 (16 - x) = ((16 - l.length % 16 : Nat) : Int) := by rw [hx1, I64_id (by omega) (by omega)]; omega
  rw [hy, e]; rfl
 subst hy1
 rw [Int.toNat_natCast]
 refine T.bind (o := mkO 1 _) (P := fun _ => True) ⟨(), ?_, trivial⟩ fun _ _ => T.bind (o := lenO _ _) (P := fun _ => True) ⟨(), ?_, trivial⟩ fun _ _ => T.ret ?_
 ·unfold mkO
  rw [dt (by omega), dt (by omega), dt (by omega)]
  rfl
 ·unfold lenO
  rw [show ((List.replicate ((16 - l.length % 16) % 16) (0 : Int)).length.beq ((16 - l.length % 16) % 16)) = true by simp]
  rfl
 ·simp; omega
theorem macT (N : Nat) (hN : 70000 ≤ N) (key : Vector Int 32) (n : Vector Int 12) (a c : List Int) (ha : a.length ≤ 1000000) (hc : c.length ≤ 1000000) : T (p_aead_Mac N key n a c) vbytes := by
 unfold p_aead_Mac
 refine T.bind (T.loop0 (n := 8) (by decide) (fun _ _ => True) (F := p_aead_Mac_L1 N a c) (fun k s i hi _ Q hk => ?_) (fun k s => by rw [p_aead_Mac_L1, df (by omega), cond_false]) (by omega) trivial) fun p1 _ => ?_
 ·rw [p_aead_Mac_L1, dt (by omega), cond_true, show (8 : Int) = ((8 : Nat) : Int) from rfl, i4 (by omega), ia (by omega), I64_s (by omega), shrO_ok .i64 (by omega), Option.bind_some, shrO_ok .i64 (by omega), Option.bind_some]
  exact T.bind (T.inRO (by omega) (by omega)) fun _ _ => T.bind (T.vget (by omega)) fun _ _ => T.bind (T.inRO (by omega) (by omega)) fun _ _ => T.bind (T.vget (by omega)) fun _ _ => hk _ trivial
 refine T.bind (keyT N (by omega) key n) fun r10 _ => T.bind (fillT N a ha) fun r11 _ => T.bind (fillT N c hc) fun r12 _ => T.bind (T.slc (by decide) (by decide) (by simp)) fun s13 _ => ?_
 exact T.bind (tagT N (by omega) r10 _ (by simp) (by omega)) fun r14 h14 => T.ret h14
theorem streamL (N : Nat) (hN : 20 < N) (key : Vector Int 32) (n : Vector Int 12) (len : Nat) (hl : len ≤ 65536) : ∀ (k : Nat) (s : List Int) (c : Int), s.length ≤ len → len - s.length < k → T (p_chacha_Stream_L1 N (len : Int) key n k s c) (fun r => r.length = len)
 | 0, _, _, _, h => by omega
 | k + 1, s, c, hs, hk => by
  rw [p_chacha_Stream_L1, show imin (len : Int) 65536 = (len : Int) by unfold imin; split <;> omega]
  refine T.letO fun x hx => ?_
  subst hx
  refine T.cond (fun hc => ?_) (fun hc => ?_)
  ·have hc : s.length < len := by have := of_decide_eq_true hc; omega
   refine T.bind (blockT N hN key c n) fun r5 _ => ?_
   have f : I64 ((len : Int) - (s.length : Int)) = ((len - s.length : Nat) : Int) := by rw [I64_id (by omega) (by omega)]; omega
   rw [f, letO_e, show (64 : Int) = ((64 : Nat) : Int) from rfl, imin_nat]
   refine T.bind (T.slc (by omega) (by omega) (by simp; omega)) fun s9 h9 => ?_
   have h10 := h9.2
   refine T.bind (T.app (by omega)) fun z hz => ?_
   subst hz
   exact streamL N hN key n len hl k _ _ (by rw [List.length_append]; omega) (by rw [List.length_append]; omega)
  ·have hc : s.length = len := by have := of_decide_eq_false hc; omega
   exact T.ret hc
theorem streamT (N : Nat) (hN : 70000 ≤ N) (key : Vector Int 32) (c : Int) (n : Vector Int 12) (len : Nat) (hl : len ≤ 65536) : T (p_chacha_Stream N key c n (len : Int)) (fun r => r.length = len) := by
 unfold p_chacha_Stream
 exact T.bind (streamL N (by omega) key n len hl N [] c (by simp) (by simp; omega)) fun p1 h => T.ret h
def xorZ (d s : List Int) : List Int := List.zipWith (bxor .u8) d s
theorem xorZ_len {d s : List Int} (h : s.length = d.length) : (xorZ d s).length = d.length := by unfold xorZ; simp; omega
theorem xorZ_bytes (d s : List Int) : bytesL (xorZ d s) := by
 intro x hx
 unfold xorZ at hx
 rw [List.mem_iff_getElem?] at hx
 obtain ⟨i, hi⟩ := hx
 rw [List.getElem?_zipWith] at hi
 revert hi
 cases d[i]? <;> cases s[i]? <;> intro hi <;> simp at hi
 rw [← hi]; exact bxor_b
theorem bxor_twice {a : Int} (ha : isB a) (b : Int) : bxor .u8 (bxor .u8 a b) b = a := by
 have e : ∀ x y : Int, bxor .u8 x y = ((BitVec.ofInt 8 x ^^^ BitVec.ofInt 8 y).toNat : Int) := by
  intro x y
  unfold bxor
  have : (BitVec.ofInt 8 x ^^^ BitVec.ofInt 8 y).toNat < 256 := (BitVec.ofInt 8 x ^^^ BitVec.ofInt 8 y).isLt
  exact U8_id (by omega) (by show ((BitVec.ofInt 8 x ^^^ BitVec.ofInt 8 y).toNat : Int) < 256; omega)
 rw [e, e, BitVec.ofInt_natCast, BitVec.ofNat_toNat, BitVec.setWidth_eq, BitVec.xor_assoc, BitVec.xor_self, BitVec.xor_zero, ofInt8 ha]
 have := ha.1
 omega
theorem xorZ_twice : ∀ {d s : List Int}, bytesL d → s.length = d.length → xorZ (xorZ d s) s = d
 | [], s, _, _ => rfl
 | a :: d, [], _, h => by simp at h
 | a :: d, b :: s, hd, h => by
  have h1 := bxor_twice (hd a (by simp)) b
  have h2 := xorZ_twice (d := d) (s := s) (fun x hx => hd x (by simp [hx])) (by simpa using h)
  unfold xorZ at *
  simp [h1, h2]
theorem xorL2 (N : Nat) (d st : List Int) (hs : st.length = d.length) (hl : d.length ≤ 65536) : ∀ (k i : Nat), i ≤ d.length → d.length - i < k → p_chacha_Xor_L2 N st k (xorZ (d.take i) (st.take i) ++ d.drop i) (i : Int) = some (xorZ d st)
 | 0, _, _, h => by omega
 | k + 1, i, hi, hk => by
  rw [p_chacha_Xor_L2, letO_e]
  have hz : (xorZ (d.take i) (st.take i)).length = i := by rw [xorZ_len (by simp; omega)]; simp; omega
  by_cases h : i < d.length
  ·have hcat : (xorZ (d.take i) (st.take i) ++ d.drop i).length = d.length := by rw [List.length_append, hz, List.length_drop]; omega
   have hget : (xorZ (d.take i) (st.take i) ++ d.drop i)[i]? = some d[i] := by
    rw [List.getElem?_append_right (by omega), hz, Nat.sub_self, List.getElem?_drop, Nat.add_zero, List.getElem?_eq_getElem h]
   rw [dt (by omega), cond_true, idx_at (by omega), Option.bind_some, inRO_ok (by omega) (by omega), Option.bind_some, Int.toNat_natCast, hget, Option.bind_some, Option.bind_some]
   have hset : setO (xorZ (d.take i) (st.take i) ++ d.drop i) i (bxor .u8 d[i] st[i]) = some (xorZ (d.take (i + 1)) (st.take (i + 1)) ++ d.drop (i + 1)) := by
    unfold setO
    rw [show Nat.blt i (xorZ (d.take i) (st.take i) ++ d.drop i).length = true by rw [hcat]; exact Nat.ble_eq_true_of_le h, cond_true]
    congr 1
    rw [List.set_append_right _ _ (by omega), hz, Nat.sub_self, List.drop_eq_getElem_cons h, List.set_cons_zero]
    have e1 : xorZ (d.take (i + 1)) (st.take (i + 1)) = xorZ (d.take i) (st.take i) ++ [bxor .u8 d[i] st[i]] := by
     unfold xorZ
     rw [List.take_succ, List.take_succ, List.getElem?_eq_getElem h, List.getElem?_eq_getElem (show i < st.length by omega)]
     show List.zipWith _ (List.take i d ++ [d[i]]) (List.take i st ++ [st[i]]) = _
     rw [List.zipWith_append (by simp; omega)]
     rfl
    rw [e1]
    simp
   rw [hset, Option.bind_some, I64_s (by omega)]
   exact xorL2 N d st hs hl k (i + 1) (by omega) (by omega)
  ·obtain rfl : i = d.length := by omega
   rw [df (by omega), cond_false, List.take_length, List.take_of_length_le (by omega), List.drop_length, List.append_nil]
def stV (N : Nat) (key : Vector Int 32) (n : Vector Int 12) (len : Nat) : List Int := (p_chacha_Stream N key 1 n (len : Int)).getD []
theorem stV_ok (N : Nat) (hN : 70000 ≤ N) (key : Vector Int 32) (n : Vector Int 12) (len : Nat) (hl : len ≤ 65536) : p_chacha_Stream N key 1 n (len : Int) = some (stV N key n len) ∧ (stV N key n len).length = len := by
 obtain ⟨r, h1, h2⟩ := streamT N hN key 1 n len hl
 unfold stV
 rw [h1]
 exact ⟨rfl, h2⟩
def xorV (N : Nat) (key : Vector Int 32) (n : Vector Int 12) (d : List Int) : List Int := xorZ d (stV N key n d.length)
theorem xorV_len (N : Nat) (hN : 70000 ≤ N) (key : Vector Int 32) (n : Vector Int 12) {d : List Int} (hl : d.length ≤ 65536) : (xorV N key n d).length = d.length := xorZ_len (stV_ok N hN key n _ hl).2
theorem xorV_twice (N : Nat) (hN : 70000 ≤ N) (key : Vector Int 32) (n : Vector Int 12) {d : List Int} (hd : bytesL d) (hl : d.length ≤ 65536) : xorV N key n (xorV N key n d) = d := by
 have h := (stV_ok N hN key n _ hl).2
 unfold xorV
 rw [xorZ_len h]
 exact xorZ_twice hd h
theorem xorP (N : Nat) (hN : 70000 ≤ N) (key : Vector Int 32) (n : Vector Int 12) (d : List Int) (hl : d.length ≤ 65536) : p_chacha_Xor N key 1 n [d] = some (xorV N key n d) := by
 obtain ⟨h1, h2⟩ := stV_ok N hN key n _ hl
 unfold p_chacha_Xor
 have hL1 : p_chacha_Xor_L1 N [d] N [] 0 = some d := by
  obtain ⟨m, rfl⟩ : ∃ m, N = m + 2 := ⟨N - 2, by omega⟩
  rw [show p_chacha_Xor_L1 (m + 2) [d] (m + 2) [] 0 = p_chacha_Xor_L1 (m + 2) [d] (m + 1 + 1) [] 0 from rfl, p_chacha_Xor_L1, letO_e, dt (by simp), cond_true, show idx [d] 0 = some d from rfl, Option.bind_some]
  have f : I64 (65536 - (([] : List Int).length : Int)) = 65536 := by decide
  rw [f, letO_e, letO_e, show imin (d.length : Int) 65536 = (d.length : Int) by unfold imin; split <;> omega, slcO_ok (by omega) (by omega) (by omega), Option.bind_some, Int.toNat_natCast, List.take_length]
  have e : (List.drop (0 : Int).toNat d) = d := rfl
  rw [e, appO_ok (by simp; omega), Option.bind_some, List.nil_append, p_chacha_Xor_L1, letO_e]
  rfl
 rw [hL1, Option.bind_some, h1, Option.bind_some]
 have := xorL2 N d _ h2 hl N 0 (by omega) (by omega)
 rw [List.take_zero, List.take_zero, List.drop_zero] at this
 rw [show p_chacha_Xor_L2 N (stV N key n d.length) N d 0 = some (xorZ d (stV N key n d.length)) from this]
 rfl
def macV (N : Nat) (key : Vector Int 32) (n : Vector Int 12) (a c : List Int) : Vector Int 16 := (p_aead_Mac N key n a c).getD (Vector.replicate 16 0)
theorem macP (N : Nat) (hN : 70000 ≤ N) (key : Vector Int 32) (n : Vector Int 12) (a c : List Int) (ha : a.length ≤ 1000000) (hc : c.length ≤ 1000000) : p_aead_Mac N key n a c = some (macV N key n a c) ∧ vbytes (macV N key n a c) := by
 obtain ⟨r, h1, h2⟩ := macT N hN key n a c ha hc
 unfold macV
 rw [h1]
 exact ⟨rfl, h2⟩
def sealV (N : Nat) (key : Vector Int 32) (n : Vector Int 12) (a p : List Int) : List Int := xorV N key n p ++ (macV N key n a (xorV N key n p)).toList
theorem sealV_len (N : Nat) (hN : 70000 ≤ N) (key : Vector Int 32) (n : Vector Int 12) (a : List Int) {p : List Int} (hl : p.length ≤ 65536) : (sealV N key n a p).length = p.length + 16 := by
 unfold sealV
 rw [List.length_append, xorV_len N hN key n hl]
 simp
theorem sealV_bytes (N : Nat) (hN : 70000 ≤ N) (key : Vector Int 32) (n : Vector Int 12) (a : List Int) {p : List Int} (ha : a.length ≤ 1000000) (hl : p.length ≤ 65536) : bytesL (sealV N key n a p) :=
 (xorZ_bytes _ _).app (macP N hN key n a _ ha (by rw [xorV_len N hN key n hl]; omega)).2
theorem sealP (N : Nat) (hN : 70000 ≤ N) (key : Vector Int 32) (n : Vector Int 12) (a p : List Int) (ha : a.length ≤ 16384) (hp : p.length ≤ 16384) : p_aead_Seal N key n a p = some (sealV N key n a p, 0) := by
 unfold p_aead_Seal
 have hx := xorV_len N hN key n (d := p) (by omega)
 rw [letO_e, letO_e, df (by omega), df (by omega), cond_false, cond_false, xorP N hN key n p (by omega), Option.bind_some, (macP N hN key n a _ (by omega) (by omega)).1, Option.bind_some]
 have hs : slcO (macV N key n a (xorV N key n p)).toList 0 16 = some (macV N key n a (xorV N key n p)).toList := slcV (m := 16) _
 rw [hs, Option.bind_some, concP N [xorV N key n p, (macV N key n a (xorV N key n p)).toList] (by simp) (by show 2 < N; omega) (by intro l hl; simp only [List.mem_cons, List.not_mem_nil, or_false] at hl; rcases hl with rfl | rfl; omega; simp), Option.bind_some]
 congr 2
 simp [sealV]
theorem sameL16 (N : Nat) (a b : Vector Int 16) (ha : vbytes a) (hb : vbytes b) : ∀ (k i : Nat) (s : Int), isB s → i ≤ 16 → 16 - i < k → ∃ t, p_poly_Same_L1 N a b k s (i : Int) = some t ∧ isB t ∧ (t = 0 ↔ s = 0 ∧ ∀ j, i ≤ j → j < 16 → a.toList.getD j 0 = b.toList.getD j 0)
 | 0, _, _, _, _, h => by omega
 | k + 1, i, s, hs, hi, hk => by
  rw [p_poly_Same_L1]
  by_cases h : i < 16
  ·have b1 : isB (bxor .u8 (a.toList.getD i 0) (b.toList.getD i 0)) := bxor_b
   obtain ⟨c1, c2⟩ := bor8 hs b1
   rw [dt (by omega), cond_true, idx_D (by simp; omega), Option.bind_some, idx_D (by simp; omega), Option.bind_some, letO_e, I64_s (by omega)]
   obtain ⟨t, h1, h2, h3⟩ := sameL16 N a b ha hb k (i + 1) _ c1 (by omega) (by omega)
   refine ⟨t, h1, h2, ?_⟩
   rw [h3, c2, bxor8 (ha.getD i) (hb.getD i)]
   constructor
   ·rintro ⟨⟨h4, h5⟩, h6⟩
    refine ⟨h4, fun j hj hj2 => ?_⟩
    rcases Nat.lt_or_ge i j with h7 | h7
    ·exact h6 j h7 hj2
    ·obtain rfl : j = i := by omega
     exact h5
   ·rintro ⟨h4, h5⟩
    exact ⟨⟨h4, h5 i (Nat.le_refl _) h⟩, fun j hj hj2 => h5 j (by omega) hj2⟩
  ·refine ⟨s, by rw [df (by omega), cond_false], hs, ?_⟩
   constructor
   ·intro h0; exact ⟨h0, fun j hj hj2 => by omega⟩
   ·intro h0; exact h0.1
theorem same16 (N : Nat) (hN : 32 < N) (a b : Vector Int 16) (ha : vbytes a) (hb : vbytes b) : p_poly_Same N a b = some (decide (a = b)) := by
 unfold p_poly_Same
 obtain ⟨t, h1, h2, h3⟩ := sameL16 N a b ha hb N 0 0 ⟨by decide, by decide⟩ (by omega) (by omega)
 rw [show ((0 : Nat) : Int) = 0 from rfl] at h1
 rw [h1, Option.bind_some]
 congr 1
 rw [Bool.eq_iff_iff, beq_iff_eq, decide_eq_true_eq, h3]
 constructor
 ·rintro ⟨_, h⟩
  exact vext (fun j hj => h j (by omega) hj)
 ·rintro rfl
  exact ⟨rfl, fun _ _ _ => rfl⟩
def openV (N : Nat) (key : Vector Int 32) (n : Vector Int 12) (a c : List Int) (t : List Int) : List Int × Int := cond (decide ((macV N key n a c).toList = t)) (xorV N key n c, 0) ([], 6)
theorem openP (N : Nat) (hN : 70000 ≤ N) (key : Vector Int 32) (n : Vector Int 12) (a c t : List Int) (ht : bytesL t) (ht16 : t.length = 16) (ha : a.length ≤ 16384) (hc : c.length ≤ 16384) : p_aead_Open N key n a (c ++ t) = some (openV N key n a c t) := by
 unfold p_aead_Open
 have f : I64 (((c ++ t).length : Int) - 16) = (c.length : Int) := by rw [List.length_append, ht16, I64_id (by omega) (by omega)]; omega
 rw [f, letO_e, df (by omega), cond_false, letO_e, df (by omega), cond_false, letO_e, df (by omega), cond_false, slcO_take (by simp), Option.bind_some, List.take_left', (macP N hN key n a c (by omega) (by omega)).1, Option.bind_some, slcO_drop (by simp), Option.bind_some]
 ·rw [List.drop_left' rfl]
  obtain ⟨v, h1, h2⟩ := T.vec (n := 16) (l := t) (by omega)
  rw [List.take_of_length_le (by omega)] at h2
  rw [h1, Option.bind_some, same16 N (by omega) _ _ (macP N hN key n a c (by omega) (by omega)).2 (by unfold vbytes; rw [h2]; exact ht), Option.bind_some]
  unfold openV
  have e : decide ((macV N key n a c).toList = t) = decide (macV N key n a c = v) := by
   rw [Bool.eq_iff_iff, decide_eq_true_eq, decide_eq_true_eq, ← h2, Vector.toList_inj]
  rw [e]
  cases decide (macV N key n a c = v) with
  | true => rw [Bool.not_true, cond_false, cond_true, xorP N hN key n c (by omega), Option.bind_some]
  | false => rfl
 ·rfl
theorem openShort (N : Nat) (key : Vector Int 32) (n : Vector Int 12) (a s : List Int) (h : s.length < 16) : p_aead_Open N key n a s = some ([], 4) := by
 unfold p_aead_Open
 have f : I64 ((s.length : Int) - 16) = (s.length : Int) - 16 := by rw [I64_id (by omega) (by omega)]
 rw [f, letO_e, dt (by omega), cond_true]
theorem openSeal (N : Nat) (hN : 70000 ≤ N) (key : Vector Int 32) (n : Vector Int 12) (a p : List Int) (hp : bytesL p) (ha : a.length ≤ 16384) (hl : p.length ≤ 16384) : p_aead_Open N key n a (sealV N key n a p) = some (p, 0) := by
 have hx := xorV_len N hN key n (d := p) (by omega)
 have hm := (macP N hN key n a (xorV N key n p) (by omega) (by omega)).2
 unfold sealV
 rw [openP N hN key n a _ _ hm (by simp) ha (by omega)]
 unfold openV
 rw [dt rfl, cond_true, xorV_twice N hN key n hp (by omega)]
theorem sealOpen (N : Nat) (hN : 70000 ≤ N) (key : Vector Int 32) (n : Vector Int 12) (a s p : List Int) (hs : bytesL s) (ha : a.length ≤ 16384) (hl : s.length ≤ 16384) (h : p_aead_Open N key n a s = some (p, 0)) : s = sealV N key n a p ∧ bytesL p ∧ s.length = p.length + 16 := by
 by_cases h16 : s.length < 16
 ·rw [openShort N key n a s h16] at h; simp at h
 ·have e : s = s.take (s.length - 16) ++ s.drop (s.length - 16) := (List.take_append_drop _ _).symm
  rw [e, openP N hN key n a _ _ (hs.drop _) (by simp; omega) ha (by simp; omega)] at h
  unfold openV at h
  cases hd : decide ((macV N key n a (s.take (s.length - 16))).toList = s.drop (s.length - 16)) with
  | false => rw [hd, cond_false] at h; simp at h
  | true =>
   rw [hd, cond_true] at h
   have h := (Prod.mk.inj (Option.some.inj h)).1
   have hd := of_decide_eq_true hd
   subst h
   have hb : bytesL (s.take (s.length - 16)) := hs.take _
   refine ⟨?_, xorZ_bytes _ _, ?_⟩
   ·unfold sealV
    rw [xorV_twice N hN key n hb (by simp; omega), hd]
    exact e
   ·rw [xorV_len N hN key n (by simp; omega)]
    simp; omega
theorem openT (N : Nat) (hN : 70000 ≤ N) (key : Vector Int 32) (n : Vector Int 12) (a s : List Int) (hs : bytesL s) (ha : a.length ≤ 16384) (hl : s.length ≤ 16384) : T (p_aead_Open N key n a s) (fun r => (r.2 = 0 ∧ bytesL r.1 ∧ s.length = r.1.length + 16 ∧ s = sealV N key n a r.1) ∨ (r.1 = [] ∧ (r.2 = 4 ∨ r.2 = 6))) := by
 by_cases h16 : s.length < 16
 ·exact T.of (openShort N key n a s h16) (.inr ⟨rfl, .inl rfl⟩)
 ·have e : s = s.take (s.length - 16) ++ s.drop (s.length - 16) := (List.take_append_drop _ _).symm
  have h : p_aead_Open N key n a s = some (openV N key n a (s.take (s.length - 16)) (s.drop (s.length - 16))) := by
   conv => lhs; rw [e]
   exact openP N hN key n a _ _ (hs.drop _) (by simp; omega) ha (by simp; omega)
  refine T.of h ?_
  unfold openV at h ⊢
  cases hd : decide ((macV N key n a (s.take (s.length - 16))).toList = s.drop (s.length - 16)) with
  | false => exact .inr ⟨rfl, .inr rfl⟩
  | true =>
   rw [hd, cond_true] at h
   obtain ⟨g1, g2, g3⟩ := sealOpen N hN key n a s _ hs ha hl h
   exact .inl ⟨rfl, g2, g3, g1⟩
end Go.UK
