/- A part of the proof: what the functions of the program compute. -/
import Derived.Test.YtcaadpceoajapaaQ3
import Derived.Test.YtcaadpceoajapaaC9
namespace Go.UK
open Go Go.Proofs
set_option maxRecDepth 20000
set_option maxHeartbeats 2000000
set_option linter.all false
/-! ### words of 32 bits and bytes -/
theorem U32_e (x : Int) : U32 x = x % 4294967296 := IntKind.wrap_u32 x
theorem U8_e (x : Int) : U8 x = x % 256 := IntKind.wrap_u8 x
theorem U32_id {x : Int} (h : 0 ≤ x) (h' : x < 4294967296) : U32 x = x := by rw [U32_e]; omega
theorem U8_id {x : Int} (h : 0 ≤ x) (h' : x < 256) : U8 x = x := by rw [U8_e]; omega
theorem bor_comm' (k : IntKind) (a b : Int) : bor k a b = bor k b a := by unfold bor; rw [BitVec.or_comm]
theorem bxor_comm' (k : IntKind) (a b : Int) : bxor k a b = bxor k b a := by unfold bxor; rw [BitVec.xor_comm]
def isW (x : Int) : Prop := 0 ≤ x ∧ x < 4294967296
def isB (x : Int) : Prop := 0 ≤ x ∧ x < 256
theorem isB.w {x : Int} (h : isB x) : isW x := ⟨h.1, by have := h.2; omega⟩
theorem U32_w (x : Int) : isW (U32 x) := by rw [U32_e]; exact ⟨by omega, by omega⟩
theorem U8_b (x : Int) : isB (U8 x) := by rw [U8_e]; exact ⟨by omega, by omega⟩
theorem ofInt_nat32 (n : Nat) (h : n < 4294967296) : (BitVec.ofInt 32 (n : Int)).toNat = n := by
  rw [BitVec.toNat_ofInt]; simp; omega
theorem bor32_e {a b : Int} (ha : isW a) (hb : isW b) : bor .u32 a b = ((a.toNat ||| b.toNat : Nat) : Int) := by
  obtain ⟨ha, ha'⟩ := ha
  obtain ⟨hb, hb'⟩ := hb
  obtain ⟨A, rfl⟩ := Int.eq_ofNat_of_zero_le ha
  obtain ⟨B, rfl⟩ := Int.eq_ofNat_of_zero_le hb
  unfold bor
  have h : A ||| B < 2 ^ 32 := Nat.or_lt_two_pow (by omega) (by omega)
  rw [show (BitVec.ofInt IntKind.u32.bits (A : Int) ||| BitVec.ofInt IntKind.u32.bits (B : Int)).toNat = A ||| B by
    rw [BitVec.toNat_or]; congr 1 <;> exact ofInt_nat32 _ (by omega), IntKind.wrap_u32]
  simp only [Int.toNat_natCast]
  omega
theorem bor32_dis {a b : Int} (m : Nat) (ha : isW a) (hb : 0 ≤ b) (hb' : b < (2 ^ m : Nat)) (hm : m ≤ 32) (hd : (2 ^ m : Nat) ∣ a.toNat) : bor .u32 a b = a + b := by
  have h32 : (2 ^ m : Nat) ≤ 2 ^ 32 := Nat.pow_le_pow_right (by decide) hm
  rw [bor32_e ha ⟨hb, by omega⟩]
  obtain ⟨A, rfl⟩ := Int.eq_ofNat_of_zero_le ha.1
  obtain ⟨B, rfl⟩ := Int.eq_ofNat_of_zero_le hb
  obtain ⟨C, hC⟩ := hd
  simp only [Int.toNat_natCast] at hC ⊢
  have : A ||| B = A + B := by
    rw [hC, Nat.mul_comm, ← Nat.shiftLeft_eq, Nat.shiftLeft_add_eq_or_of_lt (by omega)]
  rw [this]
  omega
theorem shl32_e (a b : Int) (m : Nat) (hb : b = m) (hm : m ≤ 32) : shl .u32 a b = (a * (2 : Int) ^ m) % 4294967296 := by
  subst hb
  unfold shl
  rw [show min (m : Int).toNat IntKind.u32.bits = m by simp [IntKind.bits]; omega]
  exact IntKind.wrap_u32 _
theorem bxor_w {a b : Int} : isW (bxor .u32 a b) := U32_w _
theorem band_w {a b : Int} : isW (band .u32 a b) := U32_w _
theorem bor_w {a b : Int} : isW (bor .u32 a b) := U32_w _
theorem bxor_b {a b : Int} : isB (bxor .u8 a b) := U8_b _
/-! ### turning a word -/
def rotV (x : Int) (n : Nat) : Int := bor .u32 (shr .u32 x n) (shl .u32 x (32 - n : Nat))
theorem rotR (N : Nat) (x : Int) (n : Nat) (h1 : 1 ≤ n) (h2 : n ≤ 31) : p_umbraref09_rot N x n = some (rotV x n) := by
  unfold p_umbraref09_rot
  rw [shrO_ok .u32 (by omega), Option.bind_some, I64_id (by omega) (by omega), shlO_ok .u32 (by omega), Option.bind_some, show (32 - (n : Int)) = ((32 - n : Nat) : Int) by omega]
  rfl
theorem band31 (n : Nat) (h1 : 1 ≤ n) (h2 : n ≤ 31) : band .u64 (U64 (I64 (0 - (n : Int)))) 31 = ((32 - n : Nat) : Int) := by
  have : ∀ n : Fin 32, 1 ≤ n.val → band .u64 (U64 (I64 (0 - (n.val : Int)))) 31 = ((32 - n.val : Nat) : Int) := by decide +kernel
  exact this ⟨n, by omega⟩ h1
theorem rotP (N : Nat) (x : Int) (n : Nat) (h1 : 1 ≤ n) (h2 : n ≤ 31) : p_sha_rot N x n = some (rotV x n) := by
  unfold p_sha_rot p_math_bits_RotateLeft32
  rw [band31 n h1 h2, shlO_ok .u32 (by omega), Option.bind_some, letO_e, U64_id (by omega) (by omega), shrO_ok .u32 (by omega), Option.bind_some, Option.bind_some, bor_comm', show (32 - ((32 - n : Nat) : Int)) = (n : Int) by omega]
  rfl
/-! ### the words of a block -/
def wordV (b : Vector Int 64) (i : Nat) : Int := b.toList.getD (4 * i) 0 * 16777216 + b.toList.getD (4 * i + 1) 0 * 65536 + b.toList.getD (4 * i + 2) 0 * 256 + b.toList.getD (4 * i + 3) 0
def sig0 (x : Int) : Int := bxor .u32 (bxor .u32 (rotV x 7) (rotV x 18)) (shr .u32 x 3)
def sig1 (x : Int) : Int := bxor .u32 (bxor .u32 (rotV x 17) (rotV x 19)) (shr .u32 x 10)
def nextW (b : Vector Int 64) (l : List Int) (i : Nat) : Int :=
  if i < 16 then wordV b i else (l.getD (i - 16) 0 + sig0 (l.getD (i - 15) 0) + l.getD (i - 7) 0 + sig1 (l.getD (i - 2) 0)) % 4294967296
def wList (b : Vector Int 64) : Nat → List Int
  | 0 => []
  | i + 1 => wList b i ++ [nextW b (wList b i) i]
theorem wList_len (b : Vector Int 64) : ∀ i, (wList b i).length = i
  | 0 => rfl
  | i + 1 => by simp [wList, wList_len b i]
def byteBlock (b : Vector Int 64) : Prop := ∀ i, i < 64 → isB (b.toList.getD i 0)
theorem vget {α : Type} {m : Nat} (v : Vector α m) (i : Nat) (h : i < m) : v.toList[i]? = some v[i] := by simp [h]
theorem getD_vec {m : Nat} (v : Vector Int m) (i : Nat) (h : i < m) : v.toList.getD i 0 = v[i] := by rw [List.getD_eq_getElem?_getD, vget v i h]; rfl
theorem get_getD {l : List Int} {i : Nat} (h : i < l.length) : l[i]? = some (l.getD i 0) := by rw [List.getD_eq_getElem?_getD, List.getElem?_eq_getElem h]; rfl
theorem idx_D {l : List Int} {i : Nat} (h : i < l.length) : idx l (i : Int) = some (l.getD i 0) := by rw [idx_get?, get_getD h]
theorem vtake {m : Nat} {v : Vector Int m} {l : List Int} {i j : Nat} (h : v.toList.take i = l) (hj : j < i) (hi : i ≤ m) : v.toList[j]? = some (l.getD j 0) := by
  rw [← h, ← get_getD (by simp; omega), List.getElem?_take_of_lt hj]
theorem set_take {m : Nat} {v : Vector Int m} {l : List Int} {i : Nat} {x : Int} (h : v.toList.take i = l) (hi : i < m) : (v.setIfInBounds i x).toList.take (i + 1) = l ++ [x] := by
  have e : (v.setIfInBounds i x).toList = v.toList.set i x := by simp
  rw [e, List.take_succ, List.take_set_of_le (Nat.le_refl _), h, List.getElem?_set_self (by simp; omega)]
  rfl
theorem wordE {a b c d : Int} (ha : isB a) (hb : isB b) (hc : isB c) (hd : isB d) :
    bor .u32 (bor .u32 (bor .u32 (shl .u32 (U32 a) 24) (shl .u32 (U32 b) 16)) (shl .u32 (U32 c) 8)) (U32 d) = a * 16777216 + b * 65536 + c * 256 + d := by
  obtain ⟨a0, a1⟩ := ha
  obtain ⟨b0, b1⟩ := hb
  obtain ⟨c0, c1⟩ := hc
  obtain ⟨d0, d1⟩ := hd
  rw [U32_id a0 (by omega), U32_id b0 (by omega), U32_id c0 (by omega), U32_id d0 (by omega), shl32_e a 24 24 rfl (by decide), shl32_e b 16 16 rfl (by decide), shl32_e c 8 8 rfl (by decide)]
  have e1 : (a * (2 : Int) ^ 24) % 4294967296 = a * 16777216 := by rw [show (2 : Int) ^ 24 = 16777216 from rfl]; omega
  have e2 : (b * (2 : Int) ^ 16) % 4294967296 = b * 65536 := by rw [show (2 : Int) ^ 16 = 65536 from rfl]; omega
  have e3 : (c * (2 : Int) ^ 8) % 4294967296 = c * 256 := by rw [show (2 : Int) ^ 8 = 256 from rfl]; omega
  have p24 : (2 ^ 24 : Nat) = 16777216 := rfl
  have p16 : (2 ^ 16 : Nat) = 65536 := rfl
  have p8 : (2 ^ 8 : Nat) = 256 := rfl
  have h1 : bor .u32 (a * 16777216) (b * 65536) = a * 16777216 + b * 65536 := bor32_dis 24 ⟨by omega, by omega⟩ (by omega) (by rw [p24]; omega) (by decide) (by rw [p24]; omega)
  have h2 : bor .u32 (a * 16777216 + b * 65536) (c * 256) = a * 16777216 + b * 65536 + c * 256 := bor32_dis 16 ⟨by omega, by omega⟩ (by omega) (by rw [p16]; omega) (by decide) (by rw [p16]; omega)
  have h3 : bor .u32 (a * 16777216 + b * 65536 + c * 256) d = a * 16777216 + b * 65536 + c * 256 + d := bor32_dis 8 ⟨by omega, by omega⟩ (by omega) (by rw [p8]; omega) (by decide) (by rw [p8]; omega)
  rw [e1, e2, e3, h1, h2, h3]
theorem wordE' {a b c d : Int} (ha : isB a) (hb : isB b) (hc : isB c) (hd : isB d) :
    U32 (U32 (U32 (U32 (U32 (U32 (U32 a * 256) + U32 b) * 256) + U32 c) * 256) + U32 d) = a * 16777216 + b * 65536 + c * 256 + d := by
  obtain ⟨a0, a1⟩ := ha
  obtain ⟨b0, b1⟩ := hb
  obtain ⟨c0, c1⟩ := hc
  obtain ⟨d0, d1⟩ := hd
  simp only [U32_e]
  omega
theorem loopI {σ : Type} (n : Nat) (hn : n < 9223372036854775807) (I : Nat → σ → Prop) (F : Nat → σ → Int → Option σ)
    (hstep : ∀ k s i, i < n → I i s → ∃ s', I (i + 1) s' ∧ F (k + 1) s (i : Int) = F k s' (I64 ((i : Int) + 1))) (hend : ∀ k s, F (k + 1) s (n : Int) = some s) :
    ∀ (k i : Nat) (s : σ), I i s → i ≤ n → n - i < k → ∃ s', I n s' ∧ F k s (i : Int) = some s'
  | 0, i, _, _, _, h => by omega
  | k + 1, i, s, hs, hi, hk => by
    by_cases h : i < n
    · obtain ⟨s', h1, h2⟩ := hstep k s i h hs
      rw [h2, I64_s (by omega)]
      exact loopI n hn I F hstep hend k (i + 1) s' h1 (by omega) (by omega)
    · obtain rfl : i = n := by omega
      exact ⟨s, hs, hend _ _⟩
theorem cmpL1 (N : Nat) (b : Vector Int 64) (hb : byteBlock b) (hN : 64 < N) : ∃ v, p_sha_Compress_L1 N b N (Vector.replicate 64 0) 0 = some v ∧ v.toList = wList b 64 := by
  obtain ⟨v, h1, h2⟩ := loopI 64 (by decide) (fun i (v : Vector Int 64) => v.toList.take i = wList b i) (fun k v i => p_sha_Compress_L1 N b k v i) (fun k v i hi hv => by
    rw [p_sha_Compress_L1, dt (show (i : Int) < 64 by omega), cond_true]
    by_cases h16 : i < 16
    · refine ⟨v.setIfInBounds i (wordV b i), ?_, ?_⟩
      · rw [set_take hv hi, wList, nextW, if_pos h16]
      · rw [dt (show (i : Int) < 16 by omega), cond_true]
        have e0 : I64 (4 * (i : Int)) = ((4 * i : Nat) : Int) := by rw [I64_id (by omega) (by omega)]; omega
        have e1 : I64 (((4 * i : Nat) : Int) + 1) = ((4 * i + 1 : Nat) : Int) := by rw [I64_id (by omega) (by omega)]; omega
        have e2 : I64 (((4 * i : Nat) : Int) + 2) = ((4 * i + 2 : Nat) : Int) := by rw [I64_id (by omega) (by omega)]; omega
        have e3 : I64 (((4 * i : Nat) : Int) + 3) = ((4 * i + 3 : Nat) : Int) := by rw [I64_id (by omega) (by omega)]; omega
        simp only [e0, e1, e2, e3, letO_e]
        rw [idx_D (by simp; omega), Option.bind_some, idx_D (by simp; omega), Option.bind_some, idx_D (by simp; omega), Option.bind_some, idx_D (by simp; omega), Option.bind_some,
          inRO_ok (by omega) (by omega), Option.bind_some, Int.toNat_natCast, vget v i hi, Option.bind_some, Option.bind_some,
          wordE (hb _ (by omega)) (hb _ (by omega)) (hb _ (by omega)) (hb _ (by omega))]
        rfl
    · refine ⟨v.setIfInBounds i (nextW b (wList b i) i), ?_, ?_⟩
      · rw [set_take hv hi, wList]
      · rw [df (show ¬ (i : Int) < 16 by omega), cond_false]
        have f15 : I64 ((i : Int) - 15) = ((i - 15 : Nat) : Int) := by rw [I64_id (by omega) (by omega)]; omega
        have f2 : I64 ((i : Int) - 2) = ((i - 2 : Nat) : Int) := by rw [I64_id (by omega) (by omega)]; omega
        have f16 : I64 ((i : Int) - 16) = ((i - 16 : Nat) : Int) := by rw [I64_id (by omega) (by omega)]; omega
        have f7 : I64 ((i : Int) - 7) = ((i - 7 : Nat) : Int) := by rw [I64_id (by omega) (by omega)]; omega
        rw [f15, f2, f16, f7]
        simp only [letO_e, Int.toNat_natCast]
        rw [inRO_ok (i := ((i - 15 : Nat) : Int)) (by omega) (by omega), Option.bind_some, vtake hv (show i - 15 < i by omega) (by omega), Option.bind_some,
          inRO_ok (i := ((i - 2 : Nat) : Int)) (by omega) (by omega), Option.bind_some, vtake hv (show i - 2 < i by omega) (by omega), Option.bind_some,
          inRO_ok (i := ((i - 16 : Nat) : Int)) (by omega) (by omega), Option.bind_some, vtake hv (show i - 16 < i by omega) (by omega), Option.bind_some,
          show (7 : Int) = ((7 : Nat) : Int) from rfl, rotP N _ 7 (by decide) (by decide), Option.bind_some, show (18 : Int) = ((18 : Nat) : Int) from rfl, rotP N _ 18 (by decide) (by decide), Option.bind_some,
          inRO_ok (i := ((i - 7 : Nat) : Int)) (by omega) (by omega), Option.bind_some, vtake hv (show i - 7 < i by omega) (by omega), Option.bind_some,
          show (17 : Int) = ((17 : Nat) : Int) from rfl, rotP N _ 17 (by decide) (by decide), Option.bind_some, show (19 : Int) = ((19 : Nat) : Int) from rfl, rotP N _ 19 (by decide) (by decide), Option.bind_some,
          inRO_ok (i := (i : Int)) (by omega) (by omega), Option.bind_some, vget v i hi, Option.bind_some, Option.bind_some]
        have : U32 (U32 (U32 ((wList b i).getD (i - 16) 0 + sig0 ((wList b i).getD (i - 15) 0)) + (wList b i).getD (i - 7) 0) + sig1 ((wList b i).getD (i - 2) 0)) = nextW b (wList b i) i := by
          unfold nextW
          rw [if_neg h16]
          simp only [U32_e]
          omega
        rw [← this]
        rfl) (fun k v => by rw [p_sha_Compress_L1, df (by omega), cond_false]) N 0 (Vector.replicate 64 0) (by simp [wList]) (by omega) (by omega)
  refine ⟨v, h2, ?_⟩
  rw [← h1, List.take_of_length_le (by simp)]
theorem appO4 {l r : List Int} (h : l.length ≤ 100) (h' : r.length ≤ 100) : appO 4 l r = some (l ++ r) := appO_ok (by omega)
theorem byL1 (N : Nat) (b : Vector Int 64) (hb : byteBlock b) (hN : 64 < N) : p_umbraref09_By_L1 N b N [] 0 = some (wList b 16) := by
  obtain ⟨v, h1, h2⟩ := loopI 16 (by decide) (fun i (l : List Int) => l = wList b i) (fun k v i => p_umbraref09_By_L1 N b k v i) (fun k v i hi hv => by
    refine ⟨_, rfl, ?_⟩
    rw [p_umbraref09_By_L1, dt (show (i : Int) < 16 by omega), cond_true]
    have e0 : I64 (4 * (i : Int)) = ((4 * i : Nat) : Int) := by rw [I64_id (by omega) (by omega)]; omega
    have e1 : I64 (((4 * i : Nat) : Int) + 1) = ((4 * i + 1 : Nat) : Int) := by rw [I64_id (by omega) (by omega)]; omega
    have e2 : I64 (((4 * i : Nat) : Int) + 2) = ((4 * i + 2 : Nat) : Int) := by rw [I64_id (by omega) (by omega)]; omega
    have e3 : I64 (((4 * i : Nat) : Int) + 3) = ((4 * i + 3 : Nat) : Int) := by rw [I64_id (by omega) (by omega)]; omega
    simp only [e0, e1, e2, e3, letO_e]
    rw [idx_D (by simp; omega), Option.bind_some, idx_D (by simp; omega), Option.bind_some, idx_D (by simp; omega), Option.bind_some, idx_D (by simp; omega), Option.bind_some,
      wordE' (hb _ (by omega)) (hb _ (by omega)) (hb _ (by omega)) (hb _ (by omega)), hv, appO4 (by rw [wList_len]; omega) (by simp), Option.bind_some]
    rw [wList, nextW, if_pos hi]
    rfl) (fun k v => by rw [p_umbraref09_By_L1, df (by omega), cond_false]) N 0 [] rfl (by omega) (by omega)
  rw [← h1]; exact h2
theorem loopJ {σ : Type} (m n : Nat) (hn : n < 9223372036854775807) (I : Nat → σ → Prop) (F : Nat → σ → Int → Option σ)
    (hstep : ∀ k s i, m ≤ i → i < n → I i s → ∃ s', I (i + 1) s' ∧ F (k + 1) s (i : Int) = F k s' (I64 ((i : Int) + 1))) (hend : ∀ k s, F (k + 1) s (n : Int) = some s) :
    ∀ (k i : Nat) (s : σ), I i s → m ≤ i → i ≤ n → n - i < k → ∃ s', I n s' ∧ F k s (i : Int) = some s'
  | 0, i, _, _, _, _, h => by omega
  | k + 1, i, s, hs, hm, hi, hk => by
    by_cases h : i < n
    · obtain ⟨s', h1, h2⟩ := hstep k s i hm h hs
      rw [h2, I64_s (by omega)]
      exact loopJ m n hn I F hstep hend k (i + 1) s' h1 (by omega) (by omega) (by omega)
    · obtain rfl : i = n := by omega
      exact ⟨s, hs, hend _ _⟩
theorem byL2 (N : Nat) (b : Vector Int 64) (hN : 64 < N) : p_umbraref09_By_L2 N N (wList b 16) 16 = some (wList b 64) := by
  obtain ⟨v, h1, h2⟩ := loopJ 16 64 (by decide) (fun i (l : List Int) => l = wList b i) (fun k v i => p_umbraref09_By_L2 N k v i) (fun k v i hm hi hv => by
    refine ⟨_, rfl, ?_⟩
    subst hv
    rw [p_umbraref09_By_L2, dt (show (i : Int) < 64 by omega), cond_true]
    have f15 : I64 ((i : Int) - 15) = ((i - 15 : Nat) : Int) := by rw [I64_id (by omega) (by omega)]; omega
    have f2 : I64 ((i : Int) - 2) = ((i - 2 : Nat) : Int) := by rw [I64_id (by omega) (by omega)]; omega
    have f16 : I64 ((i : Int) - 16) = ((i - 16 : Nat) : Int) := by rw [I64_id (by omega) (by omega)]; omega
    have f7 : I64 ((i : Int) - 7) = ((i - 7 : Nat) : Int) := by rw [I64_id (by omega) (by omega)]; omega
    have hl := wList_len b i
    rw [f15, f2, f16, f7]
    simp only [letO_e]
    rw [idx_D (i := i - 15) (by omega), Option.bind_some, show (7 : Int) = ((7 : Nat) : Int) from rfl, rotR N _ 7 (by decide) (by decide), Option.bind_some, Option.bind_some, show (18 : Int) = ((18 : Nat) : Int) from rfl, rotR N _ 18 (by decide) (by decide), Option.bind_some, Option.bind_some,
      idx_D (i := i - 2) (by omega), Option.bind_some, show (17 : Int) = ((17 : Nat) : Int) from rfl, rotR N _ 17 (by decide) (by decide), Option.bind_some, Option.bind_some, show (19 : Int) = ((19 : Nat) : Int) from rfl, rotR N _ 19 (by decide) (by decide), Option.bind_some, Option.bind_some,
      idx_D (i := i - 7) (by omega), Option.bind_some, idx_D (i := i - 16) (by omega), Option.bind_some, appO4 (by omega) (by simp), Option.bind_some]
    have : U32 (U32 (U32 (sig1 ((wList b i).getD (i - 2) 0) + (wList b i).getD (i - 7) 0) + sig0 ((wList b i).getD (i - 15) 0)) + (wList b i).getD (i - 16) 0) = nextW b (wList b i) i := by
      unfold nextW
      rw [if_neg (by omega)]
      simp only [U32_e]
      omega
    rw [wList, ← this]
    rfl) (fun k v => by rw [p_umbraref09_By_L2, df (by omega), cond_false]) N 16 (wList b 16) rfl (by omega) (by omega) (by omega)
  rw [← h1]; exact h2
end Go.UK
