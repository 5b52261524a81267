/- A part of the proof: what the functions of the program compute. -/
import Derived.Test.YtbifjcmhomoppaaGreatJ5
namespace Go.UK
open Go Go.Proofs
set_option maxRecDepth 20000
set_option maxHeartbeats 2000000
set_option linter.all false
def rotV (x : Int) (n : Nat) : Int := bor .u32 (shr .u32 x n) (shl .u32 x (32 - n : Nat))
theorem band31 (n : Nat) (h1 : 1 ≤ n) (h2 : n ≤ 31) : band .u64 (U64 (I64 (0 - (n : Int)))) 31 = ((32 - n : Nat) : Int) := by
 have : ∀ n : Fin 32, 1 ≤ n.val → band .u64 (U64 (I64 (0 - (n.val : Int)))) 31 = ((32 - n.val : Nat) : Int) := by decide +kernel
 exact this ⟨n, by omega⟩ h1
theorem rotP (N : Nat) (x : Int) (n : Nat) (h1 : 1 ≤ n) (h2 : n ≤ 31) : p_sha_rot N x n = some (rotV x n) := by
 unfold p_sha_rot p_math_bits_RotateLeft32
 rw [band31 n h1 h2, shlO_ok .u32 (by omega), Option.bind_some, letO_e, U64_id (by omega) (by omega), shrO_ok .u32 (by omega), Option.bind_some, Option.bind_some, bor_comm', show (32 - ((32 - n : Nat) : Int)) = (n : Int) by omega]
 rfl
def wordV (b : Vector Int 64) (i : Nat) : Int := b.toList.getD (4 * i) 0 * 16777216 + b.toList.getD (4 * i + 1) 0 * 65536 + b.toList.getD (4 * i + 2) 0 * 256 + b.toList.getD (4 * i + 3) 0
def sig0 (x : Int) : Int := bxor .u32 (bxor .u32 (rotV x 7) (rotV x 18)) (shr .u32 x 3)
def sig1 (x : Int) : Int := bxor .u32 (bxor .u32 (rotV x 17) (rotV x 19)) (shr .u32 x 10)
def nextW (b : Vector Int 64) (l : List Int) (i : Nat) : Int :=
 if i < 16 then wordV b i else (l.getD (i - 16) 0 + sig0 (l.getD (i - 15) 0) + l.getD (i - 7) 0 + sig1 (l.getD (i - 2) 0)) % 4294967296
def wList (b : Vector Int 64) : Nat → List Int
 | 0 => []
 | i + 1 => wList b i ++ [nextW b (wList b i) i]
def byteBlock (b : Vector Int 64) : Prop := ∀ i, i < 64 → isB (b.toList.getD i 0)
theorem wordE {a b c d : Int} (ha : isB a) (hb : isB b) (hc : isB c) (hd : isB d) :
  bor .u32 (bor .u32 (bor .u32 (shl .u32 (U32 a) 24) (shl .u32 (U32 b) 16)) (shl .u32 (U32 c) 8)) (U32 d) = a * 16777216 + b * 65536 + c * 256 + d := by
 obtain ⟨a0, a1⟩ := ha
 obtain ⟨b0, b1⟩ := hb
 obtain ⟨c0, c1⟩ := hc
 obtain ⟨d0, d1⟩ := hd
 rw [U32_id a0 (by omega), U32_id b0 (by omega), U32_id c0 (by omega), U32_id d0 (by omega), shl32_e a 24 24 rfl (by decide), shl32_e b 16 16 rfl (by decide), shl32_e c 8 8 rfl (by decide)]
 have e1 : (a * (2 : Int) ^ 24) % 4294967296 = a * 16777216 := by rw [show (2 : Int) ^ 24 = 16777216 from rfl]; omega
 have e2 : (b * (2 : Int) ^ 16) % 4294967296 = b * 65536 := by rw [show (2 : Int) ^ 16 = 65536 from rfl]; omega
 have e3 : (c * (2 : Int) ^ 8) % 4294967296 = c * 256 := by rw [show (2 : Int) ^ 8 = 256 from rfl]; omega
 have p24 : (2 ^ 24 : Nat) = 16777216 := rfl
 have p16 : (2 ^ 16 : Nat) = 65536 := rfl
 have p8 : (2 ^ 8 : Nat) = 256 := rfl
 have h1 : bor .u32 (a * 16777216) (b * 65536) = a * 16777216 + b * 65536 := bor32_dis 24 ⟨by omega, by omega⟩ (by omega) (by rw [p24]; omega) (by decide) (by rw [p24]; omega)
 have h2 : bor .u32 (a * 16777216 + b * 65536) (c * 256) = a * 16777216 + b * 65536 + c * 256 := bor32_dis 16 ⟨by omega, by omega⟩ (by omega) (by rw [p16]; omega) (by decide) (by rw [p16]; omega)
 have h3 : bor .u32 (a * 16777216 + b * 65536 + c * 256) d = a * 16777216 + b * 65536 + c * 256 + d := bor32_dis 8 ⟨by omega, by omega⟩ (by omega) (by rw [p8]; omega) (by decide) (by rw [p8]; omega)
 rw [e1, e2, e3, h1, h2, h3]
theorem cmpL1 (N : Nat) (b : Vector Int 64) (hb : byteBlock b) (hN : 64 < N) : ∃ v, p_sha_Compress_L1 N b N (Vector.replicate 64 0) 0 = some v ∧ v.toList = wList b 64 := by
 obtain ⟨v, h1, h2⟩ := loopI 64 (by decide) (fun i (v : Vector Int 64) => v.toList.take i = wList b i) (fun k v i => p_sha_Compress_L1 N b k v i) (fun k v i hi hv => by
  rw [p_sha_Compress_L1, dt (show (i : Int) < 64 by omega), cond_true]
  by_cases h16 : i < 16
  ·refine ⟨v.setIfInBounds i (wordV b i), ?_, ?_⟩
   ·rw [set_take hv hi, wList, nextW, if_pos h16]
   ·rw [dt (show (i : Int) < 16 by omega), cond_true]
    have e0 : I64 (4 * (i : Int)) = ((4 * i : Nat) : Int) := by rw [I64_id (by omega) (by omega)]; omega
    have e1 : I64 (((4 * i : Nat) : Int) + 1) = ((4 * i + 1 : Nat) : Int) := by rw [I64_id (by omega) (by omega)]; omega
    have e2 : I64 (((4 * i : Nat) : Int) + 2) = ((4 * i + 2 : Nat) : Int) := by rw [I64_id (by omega) (by omega)]; omega
    have e3 : I64 (((4 * i : Nat) : Int) + 3) = ((4 * i + 3 : Nat) : Int) := by rw [I64_id (by omega) (by omega)]; omega
    simp only [e0, e1, e2, e3, letO_e]
    rw [idx_D (by simp; omega), Option.bind_some, idx_D (by simp; omega), Option.bind_some, idx_D (by simp; omega), Option.bind_some, idx_D (by simp; omega), Option.bind_some,
     inRO_ok (by omega) (by omega), Option.bind_some, Int.toNat_natCast, vget v i hi, Option.bind_some, Option.bind_some,
     wordE (hb _ (by omega)) (hb _ (by omega)) (hb _ (by omega)) (hb _ (by omega))]
    rfl
  ·refine ⟨v.setIfInBounds i (nextW b (wList b i) i), ?_, ?_⟩
   ·rw [set_take hv hi, wList]
   ·rw [df (show ¬ (i : Int) < 16 by omega), cond_false]
    have f15 : I64 ((i : Int) - 15) = ((i - 15 : Nat) : Int) := by rw [I64_id (by omega) (by omega)]; omega
    have f2 : I64 ((i : Int) - 2) = ((i - 2 : Nat) : Int) := by rw [I64_id (by omega) (by omega)]; omega
    have f16 : I64 ((i : Int) - 16) = ((i - 16 : Nat) : Int) := by rw [I64_id (by omega) (by omega)]; omega
    have f7 : I64 ((i : Int) - 7) = ((i - 7 : Nat) : Int) := by rw [I64_id (by omega) (by omega)]; omega
    rw [f15, f2, f16, f7]
    simp only [letO_e, Int.toNat_natCast]
    rw [inRO_ok (i := ((i - 15 : Nat) : Int)) (by omega) (by omega), Option.bind_some, vtake hv (show i - 15 < i by omega) (by omega), Option.bind_some,
     inRO_ok (i := ((i - 2 : Nat) : Int)) (by omega) (by omega), Option.bind_some, vtake hv (show i - 2 < i by omega) (by omega), Option.bind_some,
     inRO_ok (i := ((i - 16 : Nat) : Int)) (by omega) (by omega), Option.bind_some, vtake hv (show i - 16 < i by omega) (by omega), Option.bind_some,
     show (7 : Int) = ((7 : Nat) : Int) from rfl, rotP N _ 7 (by decide) (by decide), Option.bind_some, show (18 : Int) = ((18 : Nat) : Int) from rfl, rotP N _ 18 (by decide) (by decide), Option.bind_some,
     inRO_ok (i := ((i - 7 : Nat) : Int)) (by omega) (by omega), Option.bind_some, vtake hv (show i - 7 < i by omega) (by omega), Option.bind_some,
     show (17 : Int) = ((17 : Nat) : Int) from rfl, rotP N _ 17 (by decide) (by decide), Option.bind_some, show (19 : Int) = ((19 : Nat) : Int) from rfl, rotP N _ 19 (by decide) (by decide), Option.bind_some,
     inRO_ok (i := (i : Int)) (by omega) (by omega), Option.bind_some, vget v i hi, Option.bind_some, Option.bind_some]
    have : U32 (U32 (U32 ((wList b i).getD (i - 16) 0 + sig0 ((wList b i).getD (i - 15) 0)) + (wList b i).getD (i - 7) 0) + sig1 ((wList b i).getD (i - 2) 0)) = nextW b (wList b i) i := by
     unfold nextW
     rw [if_neg h16]
     simp only [U32_e]
     omega
    rw [← this]
    rfl) (fun k v => by rw [p_sha_Compress_L1, df (by omega), cond_false]) N 0 (Vector.replicate 64 0) (by simp [wList]) (by omega) (by omega)
 refine ⟨v, h2, ?_⟩
 rw [← h1, List.take_of_length_le (by simp)]
theorem vec8 (s : Vector Int 8) : s = #v[s[0], s[1], s[2], s[3], s[4], s[5], s[6], s[7]] := by
 apply Vector.ext
 intro i hi
 match i, hi with
 | 0, _ => rfl
 | 1, _ => rfl
 | 2, _ => rfl
 | 3, _ => rfl
 | 4, _ => rfl
 | 5, _ => rfl
 | 6, _ => rfl
 | 7, _ => rfl
def sum1 (x : Int) : Int := bxor .u32 (bxor .u32 (rotV x 6) (rotV x 11)) (rotV x 25)
def sum0 (x : Int) : Int := bxor .u32 (bxor .u32 (rotV x 2) (rotV x 13)) (rotV x 22)
def t1V (s : Vector Int 8) (k w : Int) : Int := U32 (U32 (U32 (U32 (s[7] + sum1 s[4]) + bxor .u32 (band .u32 s[4] s[5]) (band .u32 (bnot .u32 s[4]) s[6])) + k) + w)
def t2V (s : Vector Int 8) : Int := U32 (sum0 s[0] + bxor .u32 (bxor .u32 (band .u32 s[0] s[1]) (band .u32 s[0] s[2])) (band .u32 s[1] s[2]))
def stp (s : Vector Int 8) (k w : Int) : Vector Int 8 := #v[U32 (t1V s k w + t2V s), s[0], s[1], s[2], U32 (s[3] + t1V s k w), s[4], s[5], s[6]]
def kV (i : Nat) : Int := cst_p_sha_Compress_058597.toList.getD i 0
def rndV (w : List Int) (h : Vector Int 8) : Nat → Vector Int 8
 | 0 => h
 | i + 1 => stp (rndV w h i) (kV i) (w.getD i 0)
theorem cmpL2 (N : Nat) (p : Vector Int 64) (h : Vector Int 8) (hN : 64 < N) : p_sha_Compress_L2 N p N h 0 = some (rndV p.toList h 64) := by
 obtain ⟨v, h1, h2⟩ := loopI 64 (by decide) (fun i (v : Vector Int 8) => v = rndV p.toList h i) (fun k v i => p_sha_Compress_L2 N p k v i) (fun k v i hi hv => by
  refine ⟨_, rfl, ?_⟩
  subst hv
  rw [p_sha_Compress_L2, dt (show (i : Int) < 64 by omega), cond_true]
  generalize hs : rndV p.toList h i = s
  have r0 : inRO 0 8 = some () := rfl
  have r1 : inRO 1 8 = some () := rfl
  have r2 : inRO 2 8 = some () := rfl
  have r3 : inRO 3 8 = some () := rfl
  have r4 : inRO 4 8 = some () := rfl
  have r5 : inRO 5 8 = some () := rfl
  have r6 : inRO 6 8 = some () := rfl
  have r7 : inRO 7 8 = some () := rfl
  have g0 : s.toList[((0 : Int).toNat)]? = some s[0] := vget s 0 (by decide)
  have g1 : s.toList[((1 : Int).toNat)]? = some s[1] := vget s 1 (by decide)
  have g2 : s.toList[((2 : Int).toNat)]? = some s[2] := vget s 2 (by decide)
  have g3 : s.toList[((3 : Int).toNat)]? = some s[3] := vget s 3 (by decide)
  have g4 : s.toList[((4 : Int).toNat)]? = some s[4] := vget s 4 (by decide)
  have g5 : s.toList[((5 : Int).toNat)]? = some s[5] := vget s 5 (by decide)
  have g6 : s.toList[((6 : Int).toNat)]? = some s[6] := vget s 6 (by decide)
  have g7 : s.toList[((7 : Int).toNat)]? = some s[7] := vget s 7 (by decide)
  have q6 : ∀ x, p_sha_rot N x 6 = some (rotV x 6) := fun x => rotP N x 6 (by decide) (by decide)
  have q11 : ∀ x, p_sha_rot N x 11 = some (rotV x 11) := fun x => rotP N x 11 (by decide) (by decide)
  have q25 : ∀ x, p_sha_rot N x 25 = some (rotV x 25) := fun x => rotP N x 25 (by decide) (by decide)
  have q2 : ∀ x, p_sha_rot N x 2 = some (rotV x 2) := fun x => rotP N x 2 (by decide) (by decide)
  have q13 : ∀ x, p_sha_rot N x 13 = some (rotV x 13) := fun x => rotP N x 13 (by decide) (by decide)
  have q22 : ∀ x, p_sha_rot N x 22 = some (rotV x 22) := fun x => rotP N x 22 (by decide) (by decide)
  have ri : inRO (i : Int) 64 = some () := inRO_ok (by omega) (by omega)
  have gk : cst_p_sha_Compress_058597.toList[i]? = some (kV i) := get_getD (by simp; omega)
  have gp : p.toList[i]? = some (p.toList.getD i 0) := get_getD (by simp; omega)
  rw [r0, r4, r7, g0, g4, g7]
  simp only [Option.bind_some, q6, q11, q25, q2, q13, q22, letO_e, r0, r1, r2, r3, r4, r5, r6, r7, g0, g1, g2, g3, g4, g5, g6, g7, ri, Int.toNat_natCast, gk, gp]
  rw [rndV, hs]
  rfl) (fun k v => by rw [p_sha_Compress_L2, df (by omega), cond_false]) N 0 h rfl (by omega) (by omega)
 rw [← h1]; exact h2
def addV (s h : Vector Int 8) : Nat → Int := fun i => U32 (s.toList.getD i 0 + h.toList.getD i 0)
def endV (s h : Vector Int 8) : Vector Int 8 := #v[addV s h 0, addV s h 1, addV s h 2, addV s h 3, addV s h 4, addV s h 5, addV s h 6, addV s h 7]
theorem vext8 {a : Vector Int 8} {f : Nat → Int} (h : a.toList = (List.range 8).map f) : a = #v[f 0, f 1, f 2, f 3, f 4, f 5, f 6, f 7] := by
 have e : ∀ i (hi : i < 8), a[i] = f i := by
  intro i hi
  have h1 := vget a i hi
  rw [h, List.getElem?_map, List.getElem?_range hi] at h1
  simpa using h1.symm
 rw [vec8 a, e 0 (by decide), e 1 (by decide), e 2 (by decide), e 3 (by decide), e 4 (by decide), e 5 (by decide), e 6 (by decide), e 7 (by decide)]
theorem endLoop (h : Vector Int 8) (F : Nat → Vector Int 8 → Int → Option (Vector Int 8)) (hF : ∀ k v i, F (k + 1) v i = cond (decide (i < 8)) (Option.bind (inRO i 8) fun _ => Option.bind (v.toList[i.toNat]?) fun e => Option.bind (idx h.toList i) fun e' => Option.bind (inRO i 8) fun _ => Option.bind (v.toList[i.toNat]?) fun _ => F k (v.setIfInBounds i.toNat (U32 (e + e'))) (I64 (i + 1))) (some v))
  (N : Nat) (s : Vector Int 8) (hN : 8 < N) : F N s 0 = some (endV s h) := by
 obtain ⟨v, h1, h2⟩ := loopI 8 (by decide) (fun i (v : Vector Int 8) => v.toList = (List.range i).map (addV s h) ++ s.toList.drop i) (fun k v i => F k v i) (fun k v i hi hv => by
  refine ⟨v.setIfInBounds i (addV s h i), ?_, ?_⟩
  ·have e : (v.setIfInBounds i (addV s h i)).toList = v.toList.set i (addV s h i) := by simp
   rw [e, hv, List.set_append_right _ _ (by simp), List.length_map, List.length_range, Nat.sub_self, List.range_succ, List.map_append, List.append_assoc]
   congr 1
   rw [List.drop_eq_getElem_cons (by simp; omega)]
   rfl
  ·have hl := vget v i hi
   have he : v[i] = s.toList.getD i 0 := by
    have := hl
    rw [hv, List.getElem?_append_right (by simp), List.length_map, List.length_range, Nat.sub_self, List.getElem?_drop, Nat.add_zero, get_getD (by simp; omega)] at this
    exact (Option.some.inj this).symm
   rw [hF, dt (show (i : Int) < 8 by omega), cond_true, inRO_ok (by omega) (by omega), Option.bind_some, Int.toNat_natCast, hl, Option.bind_some, idx_D (by simp; omega), Option.bind_some, Option.bind_some, Option.bind_some, he]
   rfl) (fun k v => by rw [hF, df (by omega), cond_false]) N 0 s (by simp) (by omega) (by omega)
 have e : v.toList = (List.range 8).map (addV s h) := by rw [h1, List.drop_of_length_le (by simp)]; simp
 rw [vext8 e] at h2
 exact h2
def cmpV (h : Vector Int 8) (b : Vector Int 64) : Vector Int 8 := endV (rndV (wList b 64) h 64) h
theorem cmpP (N : Nat) (hN : 64 < N) (h : Vector Int 8) (b : Vector Int 64) (hb : byteBlock b) : p_sha_Compress N h b = some (cmpV h b) := by
 unfold p_sha_Compress
 obtain ⟨v, h1, h2⟩ := cmpL1 N b hb hN
 rw [h1, Option.bind_some, cmpL2 N v h hN, Option.bind_some, h2, endLoop h (fun k v i => p_sha_Compress_L3 N h k v i) (fun k v i => by rw [p_sha_Compress_L3]) N _ (by omega), Option.bind_some]
 rfl
def H0 : Vector Int 8 := #v[1779033703, 3144134277, 1013904242, 2773480762, 1359893119, 2600822924, 528734635, 1541459225]
def blockAt (m : List Int) (j : Nat) : Vector Int 64 := Vector.ofFn (fun i : Fin 64 => m.getD (64 * j + i.val) 0)
theorem blockAt_get (m : List Int) (j i : Nat) (h : i < 64) : (blockAt m j).toList.getD i 0 = m.getD (64 * j + i) 0 := by
 rw [getD_vec _ i h]
 unfold blockAt
 simp
theorem blk_ext {a b : Vector Int 64} (h : ∀ i, i < 64 → a.toList.getD i 0 = b.toList.getD i 0) : a = b := by
 apply Vector.ext
 intro i hi
 have := h i hi
 rwa [getD_vec _ i hi, getD_vec _ i hi] at this
theorem bytesL.block {m : List Int} (h : bytesL m) (j : Nat) : byteBlock (blockAt m j) := fun i hi => by rw [blockAt_get _ _ _ hi]; exact h.getD _
def blks (m : List Int) : Nat → Vector Int 8
 | 0 => H0
 | j + 1 => cmpV (blks m j) (blockAt m j)
theorem getD_app_lt {m x : List Int} {i : Nat} (h : i < m.length) : (m ++ x).getD i 0 = m.getD i 0 := by
 rw [List.getD_eq_getElem?_getD, List.getD_eq_getElem?_getD, List.getElem?_append_left h]
theorem getD_app_ge {m x : List Int} {i : Nat} (h : m.length ≤ i) : (m ++ x).getD i 0 = x.getD (i - m.length) 0 := by
 rw [List.getD_eq_getElem?_getD, List.getD_eq_getElem?_getD, List.getElem?_append_right h]
attribute [local irreducible] cmpV
theorem blks_app (m x : List Int) : ∀ j, 64 * j ≤ m.length → blks (m ++ x) j = blks m j
 | 0, _ => rfl
 | j + 1, h => by
  have e : blockAt (m ++ x) j = blockAt m j := by
   apply blk_ext
   intro i hi
   rw [blockAt_get _ _ _ hi, blockAt_get _ _ _ hi, getD_app_lt (by omega)]
  show cmpV (blks (m ++ x) j) (blockAt (m ++ x) j) = cmpV (blks m j) (blockAt m j)
  rw [e, blks_app m x j (by omega)]
structure HOK (m : List Int) (h : Vector Int 8) (blk : Vector Int 64) (n : Int) : Prop where
 n : n = (m.length : Int)
 h : h = blks m (m.length / 64)
 b : ∀ i, i < m.length % 64 → blk.toList.getD i 0 = m.getD (64 * (m.length / 64) + i) 0
theorem cpV_ok {blk : Vector Int 64} {d : List Int} {lo len : Nat} (h : lo + len ≤ 64) : ∃ v, cpV blk d lo len = some v ∧ v.toList = cpy blk.toList d lo len := by
 unfold cpV
 rw [dif_pos h]
 exact ⟨_, rfl, rfl⟩
theorem cpy_lt {l d : List Int} {lo len i : Nat} (hl : lo ≤ l.length) (h : i < lo) : (cpy l d lo len).getD i 0 = l.getD i 0 := by
 unfold cpy
 rw [List.append_assoc, getD_app_lt (by simp; omega), List.getD_eq_getElem?_getD, List.getD_eq_getElem?_getD, List.getElem?_take_of_lt h]
theorem cpy_ge {l d : List Int} {lo len i : Nat} (hl : lo ≤ l.length) (h : lo ≤ i) (h' : i < lo + min d.length len) : (cpy l d lo len).getD i 0 = d.getD (i - lo) 0 := by
 unfold cpy
 rw [List.append_assoc, getD_app_ge (by simp; omega), getD_app_lt (by simp; omega), List.getD_eq_getElem?_getD, List.getD_eq_getElem?_getD, List.getElem?_take_of_lt (by simp; omega)]
 simp only [List.length_take]
 rw [Nat.min_eq_left hl]
theorem hok_step {m d : List Int} {h : Vector Int 8} {blk v : Vector Int 64} {n : Int} (H : HOK m h blk n) (hv : v.toList = cpy blk.toList d (m.length % 64) (64 - m.length % 64)) (hd : d ≠ []) :
  let c := min d.length (64 - m.length % 64)
  ((m.length + c) % 64 ≠ 0 → HOK (m ++ d.take c) h v (n + c)) ∧ ((m.length + c) % 64 = 0 → v = blockAt (m ++ d.take c) (m.length / 64) ∧ HOK (m ++ d.take c) (cmpV h v) v (n + c)) := by
 intro c
 have hd0 : 0 < d.length := List.length_pos_iff.2 hd
 have hlen : (m ++ d.take c).length = m.length + c := by simp [c]
 have hb : ∀ i, i < m.length % 64 + c → v.toList.getD i 0 = (m ++ d.take c).getD (64 * (m.length / 64) + i) 0 := by
  intro i hi
  rw [hv]
  by_cases h1 : i < m.length % 64
  ·rw [cpy_lt (by simp; omega) h1, H.b i h1, getD_app_lt (by omega)]
  ·rw [cpy_ge (by simp; omega) (by omega) (by omega), getD_app_ge (by omega), List.getD_eq_getElem?_getD, List.getD_eq_getElem?_getD, List.getElem?_take_of_lt (by omega)]
   congr 2
   omega
 have hc : c ≤ 64 - m.length % 64 := Nat.min_le_right _ _
 have hc0 : 0 < c := by simp only [c]; omega
 constructor
 ·intro hne
  have e : (m.length + c) / 64 = m.length / 64 := by omega
  refine ⟨by rw [hlen, H.n]; omega, ?_, ?_⟩
  ·rw [hlen, e, blks_app _ _ _ (by omega)]; exact H.h
  ·rw [hlen, e]
   intro i hi
   exact hb i (by omega)
 ·intro h0
  have e : (m.length + c) / 64 = m.length / 64 + 1 := by omega
  have hvb : v = blockAt (m ++ d.take c) (m.length / 64) := by
   apply blk_ext
   intro i hi
   rw [blockAt_get _ _ _ hi]
   exact hb i (by omega)
  refine ⟨hvb, by rw [hlen, H.n]; omega, ?_, ?_⟩
  ·rw [hlen, e, blks, blks_app _ _ _ (by omega), ← H.h, ← hvb]
  ·rw [hlen, h0]
   intro i hi
   omega
theorem slcL_ok {m : Nat} {lo hi : Int} (h0 : 0 ≤ lo) (h1 : lo ≤ hi) (h2 : hi ≤ (m : Int)) (h3 : lo < (m : Int)) : slcL m lo hi = some () := by
 unfold slcL; rw [dt h0, dt h1, dt h2, dt h3]; rfl
theorem slcB_ok {m : Nat} {lo hi : Int} (h0 : 0 ≤ lo) (h1 : lo ≤ hi) (h2 : hi ≤ (m : Int)) : slcB m lo hi = some () := by
 unfold slcB; rw [dt h0, dt h1, dt h2]; rfl
theorem tmod_nat (a b : Nat) : Int.tmod (a : Int) (b : Int) = ((a % b : Nat) : Int) := by
 rw [Int.tmod_eq_emod_of_nonneg (by omega)]; rfl
theorem writeL2 (N : Nat) (hN : 64 < N) : ∀ (k : Nat) (m d : List Int) (h : Vector Int 8) (blk : Vector Int 64) (n : Int), HOK m h blk n → bytesL m → bytesL d → d.length < k → m.length + d.length < 4611686018427387904 →
  ∃ h' blk' n', p_sha_Hash_Write_rd_L2 N k h blk n d = some (h', blk', n') ∧ HOK (m ++ d) h' blk' n'
 | 0, _, _, _, _, _, _, _, _, hk, _ => by omega
 | k + 1, m, d, h, blk, n, H, hm, hd, hk, hl => by
  rw [p_sha_Hash_Write_rd_L2, letO_e]
  by_cases h0 : d = []
  ·subst h0
   rw [df (by simp), cond_false]
   exact ⟨h, blk, n, rfl, by rwa [List.append_nil]⟩
  ·have hd0 : 0 < d.length := List.length_pos_iff.2 h0
   have hn := H.n
   subst hn
   rw [dt (by omega), cond_true, show (64 : Int) = ((64 : Nat) : Int) from rfl, tmod_nat, slcL_ok (by omega) (by omega) (by omega) (by omega), Option.bind_some, Int.toNat_natCast, Int.toNat_natCast]
   obtain ⟨v, hv1, hv2⟩ := cpV_ok (blk := blk) (d := d) (lo := m.length % 64) (len := 64 - m.length % 64) (by omega)
   rw [hv1, Option.bind_some, letO_e]
   obtain ⟨s1, s2⟩ := hok_step H hv2 h0
   generalize hc : min d.length (64 - m.length % 64) = c at s1 s2
   have hc1 : c ≤ d.length := by omega
   have hc0 : 0 < c := by omega
   rw [slcO_drop hc1, Option.bind_some]
   have e1 : I64 ((m.length : Int) + (c : Int)) = ((m.length + c : Nat) : Int) := by rw [I64_id (by omega) (by omega)]; omega
   rw [e1, tmod_nat, letO_e]
   have e2 : m ++ d = (m ++ d.take c) ++ d.drop c := by rw [List.append_assoc, List.take_append_drop]
   have hl2 : (m ++ d.take c).length = m.length + c := by simp; omega
   by_cases hz : (m.length + c) % 64 = 0
   ·obtain ⟨hvb, s2⟩ := s2 hz
    rw [hz, show ((((0 : Nat) : Int)) == 0) = true from rfl, cond_true, cmpP N hN h v (by rw [hvb]; exact (hm.app (hd.take c)).block _), Option.bind_some]
    rw [e2]
    exact writeL2 N hN k _ _ _ _ _ (by have := s2; rwa [show ((m.length : Int) + (c : Int)) = ((m.length + c : Nat) : Int) by omega] at this) (hm.app (hd.take c)) (hd.drop c) (by simp; omega) (by simp; omega)
   ·rw [show ((((m.length + c) % 64 : Nat) : Int) == 0) = false by simp; omega, cond_false]
    rw [e2]
    exact writeL2 N hN k _ _ _ _ _ (by have := s1 hz; rwa [show ((m.length : Int) + (c : Int)) = ((m.length + c : Nat) : Int) by omega] at this) (hm.app (hd.take c)) (hd.drop c) (by simp; omega) (by simp; omega)
theorem writeL1 (N : Nat) (hN : 64 < N) (ps : List (List Int)) (hb : ∀ p ∈ ps, bytesL p) (hlen : ∀ p ∈ ps, p.length < N) (hps : ps.length < 4611686018427387904) : ∀ (k i : Nat) (m : List Int) (h : Vector Int 8) (blk : Vector Int 64) (n : Int), HOK m h blk n → bytesL m → i ≤ ps.length → ps.length - i < k → m.length + (ps.drop i).flatten.length < 4611686018427387904 →
  ∃ h' blk' n', p_sha_Hash_Write_rd_L1 N ps k h blk n (i : Int) = some (h', blk', n') ∧ HOK (m ++ (ps.drop i).flatten) h' blk' n'
 | 0, _, _, _, _, _, _, _, _, hk, _ => by omega
 | k + 1, i, m, h, blk, n, H, hm, hi, hk, hl => by
  rw [p_sha_Hash_Write_rd_L1, letO_e]
  by_cases h0 : i < ps.length
  ·have hd := List.drop_eq_getElem_cons h0
   rw [hd, List.flatten_cons] at hl ⊢
   rw [List.length_append] at hl
   obtain ⟨h', blk', n', e1, e2⟩ := writeL2 N hN N m ps[i] h blk n H hm (hb _ (List.getElem_mem h0)) (hlen _ (List.getElem_mem h0)) (by omega)
   rw [dt (by omega), cond_true, idx_at h0, Option.bind_some, e1, Option.bind_some, I64_s (by omega), ← List.append_assoc]
   exact writeL1 N hN ps hb hlen hps k (i + 1) _ _ _ _ e2 (hm.app (hb _ (List.getElem_mem h0))) (by omega) (by omega) (by simp; simp at hl; omega)
  ·rw [df (by omega), cond_false, List.drop_of_length_le (by omega)]
   exact ⟨h, blk, n, rfl, by simpa using H⟩
theorem H0_nz : eqV (fun a b => a == b) H0 (Vector.replicate 8 0) = false := rfl
theorem none_ok (N : Nat) {m : List Int} {h : Vector Int 8} {blk : Vector Int 64} {n : Int} (H : HOK m h blk n) : p_sha_Hash_none_r N (S_sha_Hash.mk h blk n) = some false := by
 unfold p_sha_Hash_none_r
 simp only [letO_e]
 by_cases h0 : m = []
 ·subst h0
  have : h = H0 := H.h
  rw [this, H0_nz]
  rfl
 ·have : (n == 0) = false := by rw [H.n]; have := List.length_pos_iff.2 h0; simp; exact h0
  rw [this]
  cases eqV (fun a b => a == b) h (Vector.replicate 8 0) <;> rfl
theorem writeP (N : Nat) (hN : 64 < N) {m : List Int} {h : Vector Int 8} {blk : Vector Int 64} {n : Int} (H : HOK m h blk n) (hm : bytesL m) (ps : List (List Int)) (hb : ∀ p ∈ ps, bytesL p) (hlen : ∀ p ∈ ps, p.length < N) (hps : ps.length < N) (hps2 : ps.length < 4611686018427387904) (hl : m.length + ps.flatten.length < 4611686018427387904) :
  ∃ h' blk' n', p_sha_Hash_Write_rd N ps (S_sha_Hash.mk h blk n) = some (h', blk', n') ∧ HOK (m ++ ps.flatten) h' blk' n' := by
 unfold p_sha_Hash_Write_rd
 obtain ⟨h', blk', n', e1, e2⟩ := writeL1 N hN ps hb hlen hps2 N 0 m h blk n H hm (by omega) (by omega) (by simpa using hl)
 refine ⟨h', blk', n', ?_, by simpa using e2⟩
 rw [none_ok N H, Option.bind_some, cond_false]
 show Option.bind (p_sha_Hash_Write_rd_L1 N ps N h blk n 0) _ = _
 rw [show ((0 : Nat) : Int) = 0 from rfl] at e1
 rw [e1]
 rfl
def bitsV (n : Nat) : Int := shl .u64 (U64 (n : Int)) 3
def beB (n : Nat) (j : Nat) : Int := U8 (shr .u64 (bitsV n) ((8 * (7 - j) : Nat) : Int))
def padZ (n : Nat) : Nat := (119 - n % 64) % 64
def padV (n : Nat) : List Int := (128 :: List.replicate (padZ n) 0) ++ (List.range 8).map (beB n)
theorem padV_len (n : Nat) : (padV n).length = padZ n + 9 := by unfold padV; simp
theorem padV_bytes (n : Nat) : bytesL (padV n) := by
 intro x hx
 unfold padV at hx
 rcases List.mem_append.1 hx with h | h
 ·rcases List.mem_cons.1 h with h | h
  ·subst h; exact ⟨by decide, by decide⟩
  ·have := List.eq_of_mem_replicate h; subst this; exact ⟨by decide, by decide⟩
 ·obtain ⟨j, _, rfl⟩ := List.mem_map.1 h; exact U8_b _
def fillP (B : Nat → Int) (i : Nat) : List Int := (List.range 8).map (fun j => if 8 ≤ j + i then B j else 0)
theorem fillP_set (B : Nat → Int) : ∀ i, i < 8 → (fillP B i).set (7 - i) (B (7 - i)) = fillP B (i + 1)
 | 0, _ => rfl
 | 1, _ => rfl
 | 2, _ => rfl
 | 3, _ => rfl
 | 4, _ => rfl
 | 5, _ => rfl
 | 6, _ => rfl
 | 7, _ => rfl
theorem fillP_8 (B : Nat → Int) : fillP B 8 = (List.range 8).map B := rfl
theorem fillP_0 (B : Nat → Int) : fillP B 0 = List.replicate 8 0 := rfl
theorem padP (N : Nat) (hN : 8 < N) (n : Nat) (hn : n < 4611686018427387904) : p_sha_Pad N (n : Int) = some (padV n) := by
 unfold p_sha_Pad
 have hz : padZ n < 64 := by unfold padZ; omega
 have e0 : imax (n : Int) 0 = (n : Int) := by unfold imax; split <;> omega
 have e1 : Int.tmod (I64 (119 - (((n % 64 : Nat)) : Int))) 64 = (padZ n : Int) := by
  rw [show I64 (119 - ((n % 64 : Nat) : Int)) = ((119 - n % 64 : Nat) : Int) by rw [I64_id (by omega) (by omega)]; omega, show (64 : Int) = ((64 : Nat) : Int) from rfl, tmod_nat]
  rfl
 have e2 : I64 (I64 (1 + (padZ n : Int)) + 8) = ((padZ n + 9 : Nat) : Int) := by
  rw [I64_id (x := 1 + (padZ n : Int)) (by omega) (by omega), I64_id (by omega) (by omega)]; omega
 rw [letO_e, e0, show Int.tmod (n : Int) 64 = ((n % 64 : Nat) : Int) from tmod_nat n 64, letO_e, e1, letO_e, e2, Int.toNat_natCast]
 have e3 : mkO 1 ((padZ n + 9 : Nat) : Int) = some () := by
  unfold mkO
  rw [dt (show (0 : Int) ≤ ((padZ n + 9 : Nat) : Int) by omega), dt (show ((padZ n + 9 : Nat) : Int) ≤ 140737488355328 by omega), dt (show ((padZ n + 9 : Nat) : Int) * ((1 : Nat) : Int) ≤ 140737488355328 by omega)]
  rfl
 rw [e3, Option.bind_some, inRO_ok (by omega) (by omega), Option.bind_some, show ((0 : Int).toNat) = 0 from rfl, List.getElem?_replicate, if_pos (by omega), Option.bind_some]
 have e4 : (List.replicate (padZ n + 9) (0 : Int)).set 0 128 = (128 :: List.replicate (padZ n) 0) ++ fillP (beB n) 0 := by
  rw [fillP_0, show padZ n + 9 = (padZ n + 8) + 1 by omega, List.replicate_succ, List.set_cons_zero, List.cons_append, List.replicate_append_replicate]
 rw [e4]
 obtain ⟨v, h1, h2⟩ := loopI 8 (by decide) (fun i (l : List Int) => l = (128 :: List.replicate (padZ n) 0) ++ fillP (beB n) i) (fun k l i => p_sha_Pad_L1 N ((padZ n + 9 : Nat) : Int) (n : Int) k l i) (fun k l i hi hl => by
  refine ⟨_, rfl, ?_⟩
  have hlen : l.length = padZ n + 9 := by rw [hl]; simp [fillP]
  have f1 : I64 (((padZ n + 9 : Nat) : Int) - 1) = ((padZ n + 8 : Nat) : Int) := by rw [I64_id (by omega) (by omega)]; omega
  have f2 : I64 (((padZ n + 8 : Nat) : Int) - (i : Int)) = ((padZ n + 8 - i : Nat) : Int) := by rw [I64_id (by omega) (by omega)]; omega
  have f3 : I64 (8 * (i : Int)) = ((8 * i : Nat) : Int) := by rw [I64_id (by omega) (by omega)]; omega
  rw [p_sha_Pad_L1, dt (show (i : Int) < 8 by omega), cond_true, Int.toNat_natCast, letO_e, f1, letO_e, e0, f3, shrO_ok .u64 (by omega), Option.bind_some, f2, inRO_ok (by omega) (by omega), Option.bind_some, Int.toNat_natCast, get_getD (by omega), Option.bind_some]
  have hset : l.set (padZ n + 8 - i) (U8 (shr .u64 (bitsV n) ((8 * i : Nat) : Int))) = (128 :: List.replicate (padZ n) 0) ++ fillP (beB n) (i + 1) := by
   rw [hl, List.set_append_right _ _ (by simp; omega), ← fillP_set _ i hi, show padZ n + 8 - i - (128 :: List.replicate (padZ n) (0 : Int)).length = 7 - i by simp; omega]
   unfold beB
   rw [show 8 * (7 - (7 - i)) = 8 * i by omega]
  show p_sha_Pad_L1 N ((padZ n + 9 : Nat) : Int) (n : Int) k (l.set (padZ n + 8 - i) (U8 (shr .u64 (bitsV n) ((8 * i : Nat) : Int)))) _ = _
  rw [hset]) (fun k l => by rw [p_sha_Pad_L1, df (by omega), cond_false]) N 0 _ rfl (by omega) (by omega)
 rw [show ((0 : Nat) : Int) = 0 from rfl] at h2
 rw [h2, Option.bind_some, h1, fillP_8]
 have : lenO (128 :: List.replicate (padZ n) 0 ++ List.map (beB n) (List.range 8)) (padZ n + 9) = some () := by
  unfold lenO
  rw [show (128 :: List.replicate (padZ n) (0 : Int) ++ List.map (beB n) (List.range 8)).length = padZ n + 9 by simp, show Nat.beq (padZ n + 9) (padZ n + 9) = true from Nat.beq_refl _]
  rfl
 rw [this, Option.bind_some]
 rfl
def out8 (h : Vector Int 8) : Vector Int 32 := #v[U8 (shr .u32 h[0] 24), U8 (shr .u32 h[0] 16), U8 (shr .u32 h[0] 8), U8 h[0], U8 (shr .u32 h[1] 24), U8 (shr .u32 h[1] 16), U8 (shr .u32 h[1] 8), U8 h[1],
 U8 (shr .u32 h[2] 24), U8 (shr .u32 h[2] 16), U8 (shr .u32 h[2] 8), U8 h[2], U8 (shr .u32 h[3] 24), U8 (shr .u32 h[3] 16), U8 (shr .u32 h[3] 8), U8 h[3],
 U8 (shr .u32 h[4] 24), U8 (shr .u32 h[4] 16), U8 (shr .u32 h[4] 8), U8 h[4], U8 (shr .u32 h[5] 24), U8 (shr .u32 h[5] 16), U8 (shr .u32 h[5] 8), U8 h[5],
 U8 (shr .u32 h[6] 24), U8 (shr .u32 h[6] 16), U8 (shr .u32 h[6] 8), U8 h[6], U8 (shr .u32 h[7] 24), U8 (shr .u32 h[7] 16), U8 (shr .u32 h[7] 8), U8 h[7]]
theorem outP (N K : Nat) (h : Vector Int 8) (blk : Vector Int 64) (n : Int) : p_sha_Hash_Sum_r_L1 N (h, blk, n) (K + 9) (Vector.replicate 32 0) 0 = some (out8 h) := by
 rw [vec8 h]
 generalize h[0] = a0
 generalize h[1] = a1
 generalize h[2] = a2
 generalize h[3] = a3
 generalize h[4] = a4
 generalize h[5] = a5
 generalize h[6] = a6
 generalize h[7] = a7
 kernel_rfl
theorem out8_bytes (h : Vector Int 8) : bytesL (out8 h).toList := by
 intro x hx
 unfold out8 at hx
 simp only [Vector.toList_mk, List.mem_cons, List.not_mem_nil, or_false] at hx
 rcases hx with h | h | h | h | h | h | h | h | h | h | h | h | h | h | h | h | h | h | h | h | h | h | h | h | h | h | h | h | h | h | h | h <;> (subst h; exact U8_b _)
def endM (m : List Int) : Vector Int 8 := blks (m ++ padV m.length) ((m.length + (padZ m.length + 9)) / 64)
def shaV (m : List Int) : Vector Int 32 := out8 (endM m)
theorem shaV_bytes (m : List Int) : bytesL (shaV m).toList := out8_bytes _
theorem hok0 : HOK [] H0 (Vector.replicate 64 0) 0 := ⟨rfl, rfl, by intro i hi; simp at hi⟩
theorem sumP (N : Nat) (hN : 100 < N) {m : List Int} {h : Vector Int 8} {blk : Vector Int 64} {n : Int} (H : HOK m h blk n) (hm : bytesL m) (hl : m.length < 4000000000000000000) : p_sha_Hash_Sum_r N (S_sha_Hash.mk h blk n) = some (shaV m) := by
 have hz : padZ m.length < 64 := by unfold padZ; omega
 obtain ⟨M, rfl⟩ : ∃ M, N = M + 9 := ⟨N - 9, by omega⟩
 unfold p_sha_Hash_Sum_r
 rw [none_ok _ H, Option.bind_some, cond_false]
 show Option.bind (p_sha_Pad (M + 9) n) _ = _
 obtain ⟨h', blk', n', e1, e2⟩ := writeP (M + 9) (by omega) H hm [padV m.length] (by intro p hp; simp at hp; subst hp; exact padV_bytes _) (by intro p hp; simp at hp; subst hp; rw [padV_len]; omega) (by simp) (by simp) (by simp [padV_len]; omega)
 rw [H.n] at e1 ⊢
 rw [padP (M + 9) (by omega) m.length (by omega), Option.bind_some, e1, Option.bind_some, outP, Option.bind_some]
 have e3 := e2.h
 simp only [List.flatten_cons, List.flatten_nil, List.append_nil, List.length_append, padV_len] at e3
 rw [e3]
 rfl
theorem shaP (N : Nat) (hN : 100 < N) (ps : List (List Int)) (hb : ∀ p ∈ ps, bytesL p) (hlen : ∀ p ∈ ps, p.length < N) (hps : ps.length < N) (hl : ps.flatten.length < 4000000000000000000) (hps2 : ps.length < 4000000000000000000) : p_sha_Sum N ps = some (shaV ps.flatten) := by
 unfold p_sha_Sum
 obtain ⟨h', blk', n', e1, e2⟩ := writeP N (by omega) hok0 (by intro x hx; cases hx) ps hb hlen hps (by omega) (by simp; simp at hl; omega)
 rw [show p_sha_New N = some () from rfl, Option.bind_some]
 show Option.bind (p_sha_Hash_Write_rd N ps (S_sha_Hash.mk H0 (Vector.replicate 64 0) 0)) _ = _
 rw [e1, Option.bind_some]
 have hb' : bytesL ps.flatten := by
  intro x hx
  obtain ⟨p, hp, hx⟩ := List.mem_flatten.1 hx
  exact hb p hp x hx
 rw [List.nil_append] at e2
 show Option.bind (p_sha_Hash_Sum_r N (S_sha_Hash.mk h' blk' n')) _ = _
 rw [sumP N hN e2 hb' hl, Option.bind_some]
theorem slcV32 (v : Vector Int 32) : slcO v.toList 0 32 = some v.toList := slcV v
theorem slcV64 (v : Vector Int 64) : slcO v.toList 0 64 = some v.toList := slcV v
def keyV (key : List Int) : List Int := if 64 < key.length then (shaV key).toList else key
theorem keyV_len (key : List Int) : (keyV key).length ≤ 64 := by
 unfold keyV
 split
 ·simp
 ·omega
def padK (key : List Int) : List Int := keyV key ++ List.replicate (64 - (keyV key).length) 0
theorem padK_len (key : List Int) : (padK key).length = 64 := by have := keyV_len key; unfold padK; simp; omega
def innerV (key : List Int) : List Int := (padK key).map (fun x => bxor .u8 x 54)
def outerV (key : List Int) : List Int := (padK key).map (fun x => bxor .u8 x 92)
theorem inner_bytes (key : List Int) : bytesL (innerV key) := by intro x hx; obtain ⟨y, _, rfl⟩ := List.mem_map.1 hx; exact U8_b _
theorem outer_bytes (key : List Int) : bytesL (outerV key) := by intro x hx; obtain ⟨y, _, rfl⟩ := List.mem_map.1 hx; exact U8_b _
theorem inner_len (key : List Int) : (innerV key).length = 64 := by unfold innerV; rw [List.length_map, padK_len]
theorem outer_len (key : List Int) : (outerV key).length = 64 := by unfold outerV; rw [List.length_map, padK_len]
def hmacV (key msg : List Int) : Vector Int 32 := shaV (outerV key ++ (shaV (innerV key ++ msg)).toList)
theorem flat1 (m : List Int) : [m].flatten = m := by simp
theorem shaP1 (N : Nat) (hN : 100 < N) (m : List Int) (hm : bytesL m) (hl : m.length < N) (hl2 : m.length < 4000000000000000000) : p_sha_Sum N [m] = some (shaV m) := by
 have := shaP N hN [m] (by intro p hp; simp at hp; subst hp; exact hm) (by intro p hp; simp at hp; subst hp; exact hl) (by simp; omega) (by simpa using hl2) (by simp)
 rwa [flat1] at this
theorem map_set_step {l : List Int} {f : Int → Int} {n i : Nat} (hl : l.length = n) (hi : i < n) : ((l.take i).map f ++ l.drop i).set i (f (l.getD i 0)) = (l.take (i + 1)).map f ++ l.drop (i + 1) := by
 rw [List.set_append_right _ _ (by simp; omega)]
 have : i - ((l.take i).map f).length = 0 := by simp; omega
 rw [this, List.drop_eq_getElem_cons (by omega), List.set_cons_zero, List.take_succ, List.map_append, List.append_assoc, List.getD_eq_getElem?_getD, List.getElem?_eq_getElem (by omega)]
 rfl
theorem padsP (N : Nat) (hN : 100 < N) (key : List Int) (hk : bytesL key) (hl : key.length < N) (hl2 : key.length < 4000000000000000000) : ∃ a b, p_mac_pads N key = some (a, b) ∧ a.toList = innerV key ∧ b.toList = outerV key := by
 unfold p_mac_pads
 have e1 : (letO (decide ((key.length : Int) > 64)) fun x2 => cond x2 (Option.bind (p_sha_Sum N [key]) fun r3 => Option.bind (slcO r3.toList 0 32) fun s5 => some s5) (some key)) = some (keyV key) := by
  rw [letO_e]
  unfold keyV
  by_cases h : 64 < key.length
  ·rw [if_pos h, dt (by omega), cond_true, shaP1 N hN key hk hl hl2, Option.bind_some, slcV32, Option.bind_some]
  ·rw [if_neg h, df (by omega), cond_false]
 obtain ⟨v, hv1, hv2⟩ := cpV_ok (blk := Vector.replicate 64 0) (d := keyV key) (lo := 0) (len := 64) (by omega)
 have hv : v.toList = padK key := by
  have := keyV_len key
  rw [hv2]
  unfold cpy padK
  rw [List.take_zero, List.nil_append, Nat.zero_add, Nat.min_eq_left this, List.take_of_length_le (Nat.le_refl _), show (Vector.replicate 64 (0 : Int)).toList = List.replicate 64 0 from rfl, List.drop_replicate]
 rw [e1, Option.bind_some, slcB_ok (by omega) (by omega) (by omega), Option.bind_some, hv1, Option.bind_some]
 obtain ⟨⟨a, b⟩, h1, h2⟩ := loopI 64 (by decide) (fun i (p : Vector Int 64 × Vector Int 64) => p.1.toList = ((padK key).take i).map (fun x => bxor .u8 x 54) ++ (padK key).drop i ∧ p.2.toList = ((padK key).take i).map (fun x => bxor .u8 x 92) ++ (padK key).drop i) (fun k p i => p_mac_pads_L1 N k p.1 p.2 i) (fun k p i hi ⟨g1, g2⟩ => by
  have hlen := padK_len key
  refine ⟨(p.1.setIfInBounds i (bxor .u8 ((padK key).getD i 0) 54), p.2.setIfInBounds i (bxor .u8 ((padK key).getD i 0) 92)), ⟨?_, ?_⟩, ?_⟩
  ·rw [show (p.1.setIfInBounds i (bxor .u8 ((padK key).getD i 0) 54)).toList = p.1.toList.set i (bxor .u8 ((padK key).getD i 0) 54) by simp, g1]
   exact map_set_step (f := fun x => bxor .u8 x 54) hlen hi
  ·rw [show (p.2.setIfInBounds i (bxor .u8 ((padK key).getD i 0) 92)).toList = p.2.toList.set i (bxor .u8 ((padK key).getD i 0) 92) by simp, g2]
   exact map_set_step (f := fun x => bxor .u8 x 92) hlen hi
  ·have f1 : ∀ f : Int → Int, (((padK key).take i).map f ++ (padK key).drop i)[i]? = some ((padK key).getD i 0) := by
    intro f
    rw [List.getElem?_append_right (by simp; omega), List.getElem?_drop]
    have : i + (i - (((padK key).take i).map f).length) = i := by simp; omega
    rw [this, get_getD (by omega)]
   have f2 := f1 (fun x => bxor .u8 x 54)
   have f3 := f1 (fun x => bxor .u8 x 92)
   rw [← g1] at f2
   rw [← g2] at f3
   rw [p_mac_pads_L1, dt (show (i : Int) < 64 by omega), cond_true, inRO_ok (by omega) (by omega), Option.bind_some, Int.toNat_natCast, f2, Option.bind_some, Option.bind_some, Option.bind_some, Option.bind_some, f3, Option.bind_some, Option.bind_some, Option.bind_some]) (fun k p => by rw [p_mac_pads_L1, df (by omega), cond_false]) N 0 (v, v) ⟨by simp [hv], by simp [hv]⟩ (by omega) (by omega)
 rw [show ((0 : Nat) : Int) = 0 from rfl] at h2
 refine ⟨a, b, ?_, ?_, ?_⟩
 ·rw [h2, Option.bind_some]
 ·rw [h1.1, List.take_of_length_le (by rw [padK_len]; omega), List.drop_of_length_le (by rw [padK_len]; omega), List.append_nil]; rfl
 ·rw [h1.2, List.take_of_length_le (by rw [padK_len]; omega), List.drop_of_length_le (by rw [padK_len]; omega), List.append_nil]; rfl
theorem hmacP (N : Nat) (hN : 200 < N) (key : List Int) (ps : List (List Int)) (hk : bytesL key) (hl : key.length < N) (hl2 : key.length < 4000000000000000000) (hb : ∀ p ∈ ps, bytesL p) (hlen : ∀ p ∈ ps, p.length < N) (hps : ps.length < N) (hps2 : ps.length < 4000000000000000000) (hpl : ps.flatten.length < 3000000000000000000) : p_mac_Sum N key ps = some (hmacV key ps.flatten) := by
 unfold p_mac_Sum
 obtain ⟨a, b, e1, e2, e3⟩ := padsP N (by omega) key hk hl hl2
 rw [e1, Option.bind_some, show p_sha_New N = some () from rfl, Option.bind_some]
 dsimp only
 rw [slcV64, Option.bind_some, e2]
 obtain ⟨h1, b1, n1, f1, f2⟩ := writeP N (by omega) hok0 (by intro x hx; cases hx) [innerV key] (by intro p hp; simp at hp; subst hp; exact inner_bytes key) (by intro p hp; simp at hp; subst hp; rw [inner_len]; omega) (by simp; omega) (by simp) (by simp [inner_len])
 rw [flat1, List.nil_append] at f2
 show Option.bind (p_sha_Hash_Write_rd N [innerV key] (S_sha_Hash.mk H0 (Vector.replicate 64 0) 0)) _ = _
 rw [f1, Option.bind_some]
 obtain ⟨h2, b2, n2, f3, f4⟩ := writeP N (by omega) f2 (inner_bytes key) ps hb hlen hps (by omega) (by rw [inner_len]; omega)
 dsimp only
 rw [f3, Option.bind_some]
 dsimp only
 have hpb : bytesL ps.flatten := by
  intro x hx
  obtain ⟨p, hp, hx⟩ := List.mem_flatten.1 hx
  exact hb p hp x hx
 rw [sumP N (by omega) f4 ((inner_bytes key).app hpb) (by rw [List.length_append, inner_len]; omega), Option.bind_some, slcV64, Option.bind_some, slcV32, Option.bind_some, e3,
  shaP N (by omega) [outerV key, (shaV (innerV key ++ ps.flatten)).toList] (by intro p hp; simp at hp; rcases hp with rfl | rfl; exact outer_bytes key; exact shaV_bytes _) (by intro p hp; simp at hp; rcases hp with rfl | rfl; rw [outer_len]; omega; simp; omega) (by simp; omega) (by simp [outer_len]) (by simp), Option.bind_some]
 unfold hmacV
 simp
end Go.UK
namespace Go.UK
open Go Go.Proofs
set_option maxRecDepth 20000
set_option maxHeartbeats 2000000
set_option linter.all false
def eightV (n : Int) : List Int := [U8 (shr .i64 n 0), U8 (shr .i64 n 8), U8 (shr .i64 n 16), U8 (shr .i64 n 24), U8 (shr .i64 n 32), U8 (shr .i64 n 40), U8 (shr .i64 n 48), U8 (shr .i64 n 56)]
theorem eightL (N K : Nat) (a : Int) : p_mac_eight_L1 N 8 a (K + 9) (List.replicate 8 0) 0 = some (eightV a) := by kernel_rfl
theorem eightP (N : Nat) (hN : 20 < N) (a : Int) : p_mac_eight N a = some (eightV a) := by
 obtain ⟨K, rfl⟩ : ∃ K, N = K + 9 := ⟨N - 9, by omega⟩
 unfold p_mac_eight
 rw [show mkO 1 8 = some () from rfl, Option.bind_some, letO_e]
 have e : p_mac_eight_L1 (K + 9) ((8 : Int).toNat : Int) a (K + 9) (List.replicate (8 : Int).toNat 0) 0 = some (eightV a) := eightL (K + 9) K a
 rw [e]
 rfl
theorem eightV_bytes (a : Int) : bytesL (eightV a) := by
 intro x hx
 simp only [eightV, List.mem_cons, List.not_mem_nil, or_false] at hx
 rcases hx with rfl | rfl | rfl | rfl | rfl | rfl | rfl | rfl <;> exact U8_b _
theorem eightV_len (a : Int) : (eightV a).length = 8 := rfl
theorem bytesI_bytes (s : ByteArray) : bytesL (bytesI s) := by
 intro x hx
 obtain ⟨b, _, rfl⟩ := List.mem_map.1 hx
 exact ⟨by omega, by have := b.toNat_lt; omega⟩
theorem bytesI_len (s : ByteArray) : (bytesI s).length = s.size := by unfold bytesI; rw [List.length_map]; rfl
def derL (name : ByteArray) (ps : List (List Int)) : List (List Int) := [eightV (name.size : Int), bytesI name] ++ ps.flatMap fun p => [eightV (p.length : Int), p]
def derV (key : Vector Int 32) (name : ByteArray) (ps : List (List Int)) : Vector Int 32 := hmacV key.toList (derL name ps).flatten
theorem flatten_le : ∀ (ls : List (List Int)) (m : Nat), (∀ l ∈ ls, l.length ≤ m) → ls.flatten.length ≤ ls.length * m
 | [], m, _ => by simp
 | l :: ls, m, h => by
  have h1 := h l (by simp)
  have h2 := flatten_le ls m (fun x hx => h x (by simp [hx]))
  simp only [List.flatten_cons, List.length_append, List.length_cons, Nat.succ_mul]
  omega
theorem flatMap2_len {α β : Type} (f g : α → β) : ∀ l : List α, (l.flatMap fun p => [f p, g p]).length = 2 * l.length
 | [] => rfl
 | a :: l => by simp [flatMap2_len f g l]; omega
theorem derL1 (N : Nat) (hN : 1000 < N) (ps : List (List Int)) (hps : ps.length ≤ 100) : ∀ (k i : Nat) (s : List (List Int)), s.length ≤ 100 + 2 * i → i ≤ ps.length → ps.length - i < k → p_mac_Derive_L1 N ps k s (i : Int) = some (s ++ (ps.drop i).flatMap fun p => [eightV (p.length : Int), p])
 | 0, _, _, _, _, h => by omega
 | k + 1, i, s, hs, hi, hk => by
  by_cases h : i < ps.length
  ·rw [p_mac_Derive_L1, letO_e, dt (by omega), cond_true, idx_at h, Option.bind_some, eightP N (by omega), Option.bind_some, appO_ok (by simp; omega), Option.bind_some, I64_s (by omega), derL1 N hN ps hps k (i + 1) _ (by simp; omega) (by omega) (by omega), List.drop_eq_getElem_cons h, List.flatMap_cons, List.append_assoc]
  ·obtain rfl : i = ps.length := by omega
   rw [p_mac_Derive_L1, letO_e, df (by omega), cond_false, List.drop_length]
   simp
theorem deriveP (N : Nat) (hN : 1000 < N) (key : Vector Int 32) (hk : vbytes key) (name : ByteArray) (hn : name.size ≤ 100) (ps : List (List Int)) (hps : ps.length ≤ 100) (hb : ∀ p ∈ ps, bytesL p ∧ p.length ≤ 100) : p_mac_Derive N key name ps = some (derV key name ps) := by
 unfold p_mac_Derive
 have h1 := derL1 N hN ps hps N 0 [eightV (name.size : Int), bytesI name] (by simp) (by omega) (by omega)
 rw [List.drop_zero, show ((0 : Nat) : Int) = 0 from rfl] at h1
 rw [letO_e, eightP N (by omega), Option.bind_some, h1, Option.bind_some, slcV32, Option.bind_some]
 have hl : (derL name ps).length ≤ 202 := by unfold derL; rw [List.length_append, flatMap2_len]; simp; omega
 have hm : ∀ p ∈ derL name ps, bytesL p ∧ p.length ≤ 100 := by
  intro p hp
  unfold derL at hp
  rcases List.mem_append.1 hp with hp | hp
  ·simp only [List.mem_cons, List.not_mem_nil, or_false] at hp
   rcases hp with rfl | rfl
   ·exact ⟨eightV_bytes _, by rw [eightV_len]; omega⟩
   ·exact ⟨bytesI_bytes _, by rw [bytesI_len]; exact hn⟩
  ·obtain ⟨q, hq, hp⟩ := List.mem_flatMap.1 hp
   simp only [List.mem_cons, List.not_mem_nil, or_false] at hp
   rcases hp with rfl | rfl
   ·exact ⟨eightV_bytes _, by rw [eightV_len]; omega⟩
   ·exact hb _ hq
 have hf := flatten_le (derL name ps) 100 (fun p hp => (hm p hp).2)
 have := hmacP N (by omega) key.toList (derL name ps) hk (by simp; omega) (by simp) (fun p hp => (hm p hp).1) (fun p hp => by have := (hm p hp).2; omega) (by omega) (by omega) (by omega)
 unfold derL at this
 rw [this, Option.bind_some]
 rfl
def keyN (m : Vector Int 32) (id epoch : Int) : Vector Int 32 := derV m str_0 [leB 2 (band .u64 (U64 id) 65535), leB 4 (band .u64 (U64 epoch) 4294967295)]
theorem band_le (a : Int) (n : Nat) (h : n < 18446744073709551616) : 0 ≤ band .u64 a (n : Int) ∧ band .u64 a (n : Int) ≤ (n : Int) := by
 have e : band .u64 a (n : Int) = (((U64 a).toNat &&& n : Nat) : Int) := by
  have h1 := band_e (a := U64 a) (b := (n : Int)) (U64_lo a) (U64_hi a) (by omega) (by omega)
  rw [Int.toNat_natCast] at h1
  rw [← h1]
  unfold band
  congr 2
  rw [U64_e]
  congr 1
  apply BitVec.eq_of_toNat_eq
  simp only [BitVec.toNat_and, BitVec.toNat_ofInt]
  rw [show (((2 ^ IntKind.u64.bits : Nat) : Int)) = 18446744073709551616 from rfl, Int.emod_emod]
 rw [e]
 have : (U64 a).toNat &&& n ≤ n := Nat.and_le_right
 omega
theorem putOne (N : Nat) (hN : 20 < N) (b : List Int) (hb : b.length ≤ 1000) (w : Nat) (hw0 : 1 ≤ w) (hw : w ≤ 8) (x : Int) (h0 : 0 ≤ x) (h1 : x < p256 w) : p_codec_Put N b (w : Int) [x] = some (b ++ leB w x, 0) := by
 have hp := p256_le hw
 rw [putP N b w hw0 hw [x] (by intro y hy; simp at hy; subst hy; omega) (by omega) (by simp) (by omega) (by simp; omega)]
 unfold putV
 rw [show List.any [x] (big w) = false by simp [big, h1], cond_false]
 simp
theorem keyP (N : Nat) (hN : 1000 < N) (m : Vector Int 32) (hm : vbytes m) (id epoch : Int) : p_keys_Key N m id epoch = some (keyN m id epoch) := by
 unfold p_keys_Key
 have b1 := band_le (U64 id) 65535 (by decide)
 have b2 := band_le (U64 epoch) 4294967295 (by decide)
 rw [show ((65535 : Nat) : Int) = 65535 from rfl] at b1
 rw [show ((4294967295 : Nat) : Int) = 4294967295 from rfl] at b2
 have p1 := putOne N (by omega) [] (by simp) 2 (by decide) (by decide) _ b1.1 (by rw [show p256 2 = 65536 from rfl]; omega)
 have p2 := putOne N (by omega) [] (by simp) 4 (by decide) (by decide) _ b2.1 (by rw [show p256 4 = 4294967296 from rfl]; omega)
 rw [letO_e, show (2 : Int) = ((2 : Nat) : Int) from rfl, p1, Option.bind_some, letO_e, show (4 : Int) = ((4 : Nat) : Int) from rfl, p2, Option.bind_some]
 dsimp only [List.nil_append]
 rw [deriveP N hN m hm str_0 (by decide) _ (by simp) (by intro p hp; simp at hp; rcases hp with rfl | rfl <;> exact ⟨leB_bytes _ _, by rw [leB_len]; omega⟩)]
 rfl
end Go.UK
namespace Go.UK
open Go Go.Proofs
set_option maxRecDepth 20000
set_option maxHeartbeats 2000000
set_option linter.all false
section
variable {α : Type}
theorem mget_put_self : ∀ (l : List (Int × α)) (k : Int) (v : α), mget (mput l k v) k = some v
 | [], k, v => by simp [mput, mget]
 | p :: l, k, v => by
  by_cases h : p.1 = k
  ·simp [mput, mget, h]
  ·simp [mput, mget, h, mget_put_self l k v]
theorem mget_put_ne {k k' : Int} (hk : k ≠ k') : ∀ (l : List (Int × α)) (v : α), mget (mput l k v) k' = mget l k'
 | [], v => by simp [mput, mget, hk]
 | p :: l, v => by
  by_cases h : p.1 = k
  ·subst h; simp [mput, mget, hk]
  ·simp [mput, mget, h, mget_put_ne hk l v]
end
def spanOK (s : S_keys_span) : Prop := 1 ≤ s.gfrom ∧ s.gfrom ≤ s.gto ∧ s.gto ≤ 65535
def RingI (l : List (Int × S_keys_span)) : Prop := ∀ k s, mget l k = some s → spanOK s
theorem RingI.put {l : List (Int × S_keys_span)} (h : RingI l) {k : Int} {s : S_keys_span} (hs : spanOK s) : RingI (mput l k s) := by
 intro k' s' he
 by_cases hk : k = k'
 ·subst hk; rw [mget_put_self] at he; cases he; exact hs
 ·rw [mget_put_ne hk] at he; exact h _ _ he
def Kept (l l' : List (Int × S_keys_span)) : Prop := RingI l' ∧ ∀ k s, mget l k = some s → ∃ s', mget l' k = some s' ∧ s.gfrom ≤ s'.gfrom
theorem Kept.rfl {l : List (Int × S_keys_span)} (h : RingI l) : Kept l l := ⟨h, fun k s e => ⟨s, e, Int.le_refl _⟩⟩
theorem Kept.put {l : List (Int × S_keys_span)} (h : RingI l) {k : Int} {s : S_keys_span} (hs : spanOK s) (hk : ∀ s0, mget l k = some s0 → s0.gfrom ≤ s.gfrom) : Kept l (mput l k s) := by
 refine ⟨h.put hs, fun k' s' e => ?_⟩
 by_cases hkk : k = k'
 ·subst hkk; exact ⟨s, mget_put_self _ _ _, hk _ e⟩
 ·exact ⟨s', by rw [mget_put_ne hkk]; exact e, Int.le_refl _⟩
theorem findP (N : Nat) (l : List (Int × S_keys_span)) (id : Int) (m : Vector Int 32) : p_keys_Ring_find_rd N l id m = some (match mget l id with | some s => (s, 0) | none => (S_keys_span.mk 0 0, 11)) := by
 unfold p_keys_Ring_find_rd
 rw [show p_keys_Ring_none_r N l m = some () from rfl, Option.bind_some]
 unfold mhas mgetD
 cases mget l id <;> rfl
theorem addT (N : Nat) (l : List (Int × S_keys_span)) (id : Int) (m : Vector Int 32) (h : RingI l) : T (p_keys_Ring_Add_rd N l id m) (fun r => Kept l r.1) := by
 unfold p_keys_Ring_Add_rd p_keys_between
 rw [show p_keys_Ring_none_r N l m = some () from rfl, Option.bind_some, letO_e, Option.bind_some]
 refine T.cond (fun _ => T.ret (Kept.rfl h)) fun _ => T.cond (fun _ => T.ret (Kept.rfl h)) fun hm => T.ret ?_
 refine Kept.put h ⟨by decide, by decide, by decide⟩ fun s0 e => ?_
 unfold mhas at hm
 rw [e] at hm
 cases hm
theorem rotateT (N : Nat) (l : List (Int × S_keys_span)) (id : Int) (m : Vector Int 32) (h : RingI l) : T (p_keys_Ring_Rotate_rd N l id m) (fun r => Kept l r.1) := by
 unfold p_keys_Ring_Rotate_rd
 rw [findP, Option.bind_some]
 cases e : mget l id with
 | none => exact T.ret (Kept.rfl h)
 | some s =>
  obtain ⟨h1, h2, h3⟩ := h _ _ e
  dsimp only
  rw [show ((0 : Int) != 0) = false from rfl, cond_false]
  refine T.cond (fun _ => T.ret (Kept.rfl h)) fun hm => T.ret (Kept.put h ?_ fun s0 e0 => ?_)
  ·have hne : s.gto ≠ 65535 := by simpa using hm
   refine ⟨h1, ?_, ?_⟩ <;> dsimp only <;> rw [I64_id (by omega) (by omega)] <;> omega
  ·rw [e] at e0; cases e0; exact Int.le_refl _
theorem retireT (N : Nat) (l : List (Int × S_keys_span)) (id ep : Int) (m : Vector Int 32) (h : RingI l) : T (p_keys_Ring_Retire_rdd N l id ep m) (fun r => Kept l r.1) := by
 unfold p_keys_Ring_Retire_rdd
 rw [findP, Option.bind_some]
 cases e : mget l id with
 | none => exact T.ret (Kept.rfl h)
 | some s =>
  obtain ⟨h1, h2, h3⟩ := h _ _ e
  dsimp only
  rw [show ((0 : Int) != 0) = false from rfl, cond_false, letO_e, letO_e]
  by_cases c : ep < s.gfrom ∨ s.gto ≤ ep
  ·rw [show cond (decide (ep < s.gfrom)) true (decide (ep ≥ s.gto)) = true by
    rcases c with c | c
    ·rw [dt c]; rfl
    ·by_cases c' : ep < s.gfrom
     ·rw [dt c']; rfl
     ·rw [df c', cond_false, dt c], cond_true]
   exact T.ret (Kept.rfl h)
  ·rw [df (by omega), df (by omega), cond_false, cond_false]
   refine T.ret (Kept.put h ⟨?_, ?_, h3⟩ fun s0 e0 => ?_)
   ·dsimp only; rw [I64_id (by omega) (by omega)]; omega
   ·dsimp only; rw [I64_id (by omega) (by omega)]; omega
   ·rw [e] at e0; cases e0; dsimp only; rw [I64_id (by omega) (by omega)]; omega
def wrapB (id ep : Int) (b : List Int) : List Int := [85, 77, 75, 49] ++ leB 2 id ++ leB 4 ep ++ b
theorem wrapB_len (id ep : Int) (b : List Int) : (wrapB id ep b).length = 10 + b.length := by
 unfold wrapB; simp [leB_len]; omega
theorem openR (N : Nat) (hN : 70000 ≤ N) (l : List (Int × S_keys_span)) (m : Vector Int 32) (hm : vbytes m) {id ep : Int} (hi : 1 ≤ id ∧ id ≤ 65535) (he : 1 ≤ ep ∧ ep ≤ 65535) {base : Vector Int 8} {man : S_api_Manifest} {a : S_api_Asset} {b : List Int} (h : BunAt N (keyN m id ep) base man a b) {s : S_keys_span} (hs : mget l id = some s) :
  p_keys_Ring_Open_rd N l (wrapB id ep b) m = some (if s.gfrom ≤ ep ∧ ep ≤ s.gto then (id, man, a, 0) else (0, zM, zA 0, 18)) := by
 have hb := h.short hN
 have hl := wrapB_len id ep b
 have e1 : (wrapB id ep b).take 4 = [85, 77, 75, 49] := by unfold wrapB; rw [List.append_assoc, List.append_assoc]; rfl
 have e2 : ((wrapB id ep b).drop 4).take 6 = leB 2 id ++ leB 4 ep := by
  have : (wrapB id ep b).drop 4 = (leB 2 id ++ leB 4 ep) ++ b := by unfold wrapB; rw [List.append_assoc, List.append_assoc]; simp
  rw [this, List.take_left' (by simp [leB_len])]
 have e3 : (wrapB id ep b).drop 10 = b := by unfold wrapB; rw [List.drop_left' (by simp [leB_len])]
 unfold p_keys_Ring_Open_rd
 rw [show p_keys_Ring_none_r N l m = some () from rfl, Option.bind_some, letO_e, df (by omega), cond_false, show (4 : Int) = ((4 : Nat) : Int) from rfl, slcO_take (by omega), Option.bind_some, e1, letO_e]
 rw [show (!(ByteArray.toList (strO [85, 77, 75, 49]) == ByteArray.toList (ByteArray.mk #[85, 77, 75, 49]))) = false by rw [show strO [85, 77, 75, 49] = ByteArray.mk #[85, 77, 75, 49] from rfl]; simp, cond_false]
 rw [show (10 : Int) = ((10 : Nat) : Int) from rfl, slcO_ok (by omega) (by omega) (by omega), Option.bind_some, Int.toNat_natCast, Int.toNat_natCast, List.drop_take, show 10 - 4 = 6 from rfl, e2, newP N _ (by simp [leB_len]), Option.bind_some]
 have n1 := numOK N (by omega) 2 (by decide) (by decide) id (leB 4 ep) (by omega) (by rw [show p256 2 = 65536 from rfl]; omega) (leB_bytes _ _)
 have n2 := numOK N (by omega) 4 (by decide) (by decide) ep [] (by omega) (by rw [show p256 4 = 4294967296 from rfl]; omega) bytes_nil
 rw [List.append_nil] at n2
 rw [show (2 : Int) = ((2 : Nat) : Int) from rfl, n1, Option.bind_some]
 dsimp only
 rw [n2, Option.bind_some]
 dsimp only
 rw [I64_id (x := id) (by omega) (by omega), I64_id (x := ep) (by omega) (by omega), findP, Option.bind_some, hs]
 dsimp only
 rw [show ((0 : Int) != 0) = false from rfl, cond_false, letO_e, letO_e]
 by_cases c : s.gfrom ≤ ep ∧ ep ≤ s.gto
 ·rw [df (by omega), df (by omega), cond_false, cond_false, keyP N (by omega) m hm, Option.bind_some, slcO_drop (by omega), Option.bind_some, e3, openB hN h, Option.bind_some, if_pos c]
  rfl
 ·rw [if_neg c, show cond (decide (ep < s.gfrom)) true (decide (ep > s.gto)) = true by
   by_cases c' : ep < s.gfrom
   ·rw [dt c']; rfl
   ·rw [df c', cond_false, dt (by omega)], cond_true]
  rfl
end Go.UK
namespace Go.UK
open Go Go.Proofs
set_option maxRecDepth 20000
set_option maxHeartbeats 2000000
set_option linter.all false
theorem tmodR (z : Int) (n : Nat) (h : 0 < n) : -(n : Int) < Int.tmod z n ∧ Int.tmod z n < n := by
 rcases Int.le_total 0 z with hz | hz
 ·rw [Int.tmod_eq_emod_of_nonneg hz]
  have := Int.emod_nonneg z (show (n : Int) ≠ 0 by omega)
  have := Int.emod_lt_of_pos z (show (0 : Int) < n by omega)
  omega
 ·obtain ⟨y, rfl⟩ : ∃ y, z = -y := ⟨-z, by omega⟩
  rw [Int.neg_tmod, Int.tmod_eq_emod_of_nonneg (by omega)]
  have := Int.emod_nonneg y (show (n : Int) ≠ 0 by omega)
  have := Int.emod_lt_of_pos y (show (0 : Int) < n by omega)
  omega
theorem wrapN (z : Int) (n : Nat) (h : 0 < n) (h' : n ≤ 65535) : 1 ≤ I64 (Int.tmod (I64 (Int.tmod z n + n)) n + 1) ∧ I64 (Int.tmod (I64 (Int.tmod z n + n)) n + 1) ≤ n := by
 have h1 := tmodR z n h
 rw [I64_id (x := Int.tmod z n + n) (by omega) (by omega)]
 have h2 : 0 ≤ Int.tmod (Int.tmod z n + n) n := by
  rw [Int.tmod_eq_emod_of_nonneg (by omega)]
  exact Int.emod_nonneg _ (by omega)
 have h3 := tmodR (Int.tmod z n + n) n h
 rw [I64_id (by omega) (by omega)]
 omega
theorem wrapT (N : Nat) (hN : 70000 ≤ N) (m : Vector Int 32) (hm : vbytes m) {id ep : Int} (hi : 1 ≤ id ∧ id ≤ 65535) (he : 1 ≤ ep ∧ ep ≤ 65535) (base : Vector Int 8) (hb : vbytes base) (man : S_api_Manifest) (a : S_api_Asset) (t : ManT man) (hA : AssL a) :
  T (p_keys_Wrap N m id ep base man a) (fun r => (r.2 = 0 ∧ ∃ man' b, BunAt N (keyN m id ep) base man' a b ∧ r.1 = wrapB id ep b) ∨ (r.2 ≠ 0 ∧ r.1 = [])) := by
 unfold p_keys_Wrap p_keys_between
 simp only [letO_e, Option.bind_some]
 rw [dt hi.1, dt hi.2, dt he.1, dt he.2, cond_true, show (!true) = false from rfl, cond_false, Option.bind_some, cond_false, keyP N (by omega) m hm, Option.bind_some]
 refine T.bind (sealA N hN _ base hb man a t hA) fun r h => ?_
 rcases h with ⟨h1, h2, h3⟩ | ⟨h1, h2, _⟩
 ·have hs := h3.short hN
  rw [h1, show ((0 : Int) != 0) = false from rfl, cond_false, U64_id (x := id) (by omega) (by omega), U64_id (x := ep) (by omega) (by omega)]
  rw [show (2 : Int) = ((2 : Nat) : Int) from rfl, putOne N (by omega) [85, 77, 75, 49] (by simp) 2 (by decide) (by decide) id (by omega) (by rw [show p256 2 = 65536 from rfl]; omega), Option.bind_some]
  dsimp only
  rw [show (4 : Int) = ((4 : Nat) : Int) from rfl, putOne N (by omega) _ (by simp [leB_len]) 4 (by decide) (by decide) ep (by omega) (by rw [show p256 4 = 4294967296 from rfl]; omega), Option.bind_some]
  dsimp only
  rw [appO1 (by simp [leB_len]) (by omega), Option.bind_some]
  exact T.ret (.inl ⟨rfl, _, _, h3, rfl⟩)
 ·rw [show (r.2 != 0) = true by simpa using h1, cond_true]
  exact T.ret (.inr ⟨h1, rfl⟩)
theorem actT (N : Nat) (l : List S_umbralaw36_Act) (i : Nat) (hi : i < l.length) (m : Vector Int 32) (ring : List (Int × S_keys_span)) (h : RingI ring) :
  T (Option.bind (idx l (i : Int)) fun e23 => cond (e23.gKind == 0) (Option.bind (p_keys_Ring_Add_rd N ring e23.gId m) fun r24 => some (r24.1, e23)) (cond (e23.gKind == 1) (Option.bind (p_keys_Ring_Rotate_rd N ring e23.gId m) fun r25 => some (r25.1, e23)) (Option.bind (p_keys_Ring_Retire_rdd N ring e23.gId e23.gEpoch m) fun r26 => some (r26.1, e23)))) (fun r => Kept ring r.1) := by
 refine T.bind (T.idx (by omega) (by omega)) fun e _ => T.cond (fun _ => ?_) fun _ => T.cond (fun _ => ?_) fun _ => ?_
 ·exact T.bind (addT N ring e.gId m h) fun r hr => T.ret hr
 ·exact T.bind (rotateT N ring e.gId m h) fun r hr => T.ret hr
 ·exact T.bind (retireT N ring e.gId e.gEpoch m h) fun r hr => T.ret hr
theorem spanP (N : Nat) (l : List (Int × S_keys_span)) (id : Int) (m : Vector Int 32) {s : S_keys_span} (h : mget l id = some s) : p_keys_Ring_Span_rd N l id m = some (s.gfrom, s.gto, 0) := by
 unfold p_keys_Ring_Span_rd
 rw [findP, h]
 rfl
theorem holdL (N : Nat) (hN : 70000 ≤ N) (l : List S_umbralaw36_Act) (w : S_umbralaw36_Wrapped) (hm : vbytes w.gMaster) {id ep : Int} (hi : 1 ≤ id ∧ id ≤ 65535) (he : 1 ≤ ep ∧ ep ≤ 65535)
  (hid : I64 (Int.tmod (I64 (Int.tmod w.gId 65535 + 65535)) 65535 + 1) = id) (hep : I64 (Int.tmod (I64 (Int.tmod w.gEpoch 3 + 3)) 3 + 1) = ep)
  (r8 : List Int × Int) (r1 : S_umbralaw18_Act) (hA : AssL r1.gA) {base : Vector Int 8} {man : S_api_Manifest} {b : List Int} (h : BunAt N (keyN w.gMaster id ep) base man r1.gA b) (h8 : r8.1 = wrapB id ep b) :
  ∀ (k i : Nat) (ring : List (Int × S_keys_span)) (gone : Bool) (s : S_keys_span), RingI ring → mget ring id = some s → (gone = true → ep < s.gfrom) → i ≤ 25 → 25 - i < k → T (p_umbralaw36_KeysHold_L1 N l w r8 r1 k ring gone (i : Int)) (fun o => ∃ q, o = Sum.inl q)
 | 0, _, _, _, _, _, _, _, _, h => by omega
 | k + 1, i, ring, gone, s, hr, hs, hg, hi25, hk => by
  rw [p_umbralaw36_KeysHold_L1, letO_e, letO_e]
  by_cases c : i < l.length ∧ i < 25
  ·rw [dt (show (i : Int) < (l.length : Int) by omega), dt (show (i : Int) < 25 by omega), cond_true, cond_true]
   refine T.bind (P := fun o => ∃ q : List (Int × S_keys_span) × S_umbralaw36_Act × S_api_Manifest × S_api_Asset × Bool, o = Sum.inl q ∧ RingI q.1 ∧ ∃ s, mget q.1 id = some s ∧ (q.2.2.2.2 = true → ep < s.gfrom)) ?_ ?_
   ·refine T.bind (actT N l i c.1 w.gMaster ring hr) fun p hp => ?_
    obtain ⟨hri, hkp⟩ := hp
    obtain ⟨s', hs', hle⟩ := hkp _ _ hs
    obtain ⟨o1, o2, o3⟩ := hri _ _ hs'
    rw [letO_e, hid, spanP N p.1 id w.gMaster hs', Option.bind_some]
    dsimp only
    rw [letO_e, letO_e, show ((0 : Int) != 0) = false from rfl, cond_false, df (show ¬ s'.gfrom < 1 by omega), df (show ¬ s'.gfrom > s'.gto by omega), cond_false, cond_false, h8, openR N hN p.1 w.gMaster hm hi he h hs', Option.bind_some, letO_e, letO_e, letO_e, hep]
    by_cases cc : s'.gfrom ≤ ep ∧ ep ≤ s'.gto
    ·rw [if_pos cc, dt (show ep ≥ s'.gfrom by omega), dt cc.2, cond_true, cond_true]
     have hgf : gone = false := by
      cases gone with
      | false => rfl
      | true => have := hg rfl; omega
     subst hgf
     dsimp only
     rw [letO_e, letO_e, letO_e, show ((0 : Int) != 0) = false from rfl, cond_false, cond_false, show (id != id) = false by simp, cond_false]
     obtain ⟨x, ex, hx⟩ := sameT N (by omega) r1.gA r1.gA hA
     rw [ex, Option.bind_some, hx.2 rfl, Option.bind_some]
     exact T.ret ⟨_, rfl, hri, s', hs', fun e => by cases e⟩
    ·rw [if_neg cc, show cond (decide (ep ≥ s'.gfrom)) (decide (ep ≤ s'.gto)) false = false by
      by_cases c1 : ep ≥ s'.gfrom
      ·rw [dt c1, cond_true, df (by omega)]
      ·rw [df c1]; rfl, cond_false]
     dsimp only
     rw [letO_e, letO_e, letO_e, show ((18 : Int) != 18) = false from rfl, cond_false, show ((0 : Int) != 0) = false from rfl, cond_false]
     refine T.ret ⟨_, rfl, hri, s', hs', fun e => ?_⟩
     dsimp only at e
     cases gone with
     | true => have := hg rfl; omega
     | false => simpa using e
   ·rintro o ⟨q, rfl, h1, s', h2, h3⟩
    show T (p_umbralaw36_KeysHold_L1 N l w r8 r1 k q.1 q.2.2.2.2 (I64 ((i : Int) + 1))) _
    rw [I64_s (by omega)]
    exact holdL N hN l w hm hi he hid hep r8 r1 hA h h8 k (i + 1) q.1 q.2.2.2.2 s' h1 h2 h3 (by omega) (by omega)
  ·rw [show cond (decide ((i : Int) < (l.length : Int))) (decide ((i : Int) < 25)) false = false by
    by_cases c1 : i < l.length
    ·rw [dt (by omega), cond_true, df (by omega)]
    ·rw [df (by omega)]; rfl, cond_false]
   exact T.ret ⟨_, rfl⟩
theorem few18 (N : Nat) (x : S_umbralaw18_Act) : T (p_umbralaw18_Few N x) (fun r => AssL r.gA) := by
 unfold p_umbralaw18_Few p_umbralaw13_Few
 simp only [letO_e]
 rw [show (70 : Int) = ((70 : Nat) : Int) from rfl, show (260 : Int) = ((260 : Nat) : Int) from rfl, slcO_min, Option.bind_some, slcO_min, Option.bind_some, slcO_min, Option.bind_some, Option.bind_some, slcO_min, Option.bind_some]
 exact T.ret ⟨by dsimp only; rw [List.length_take]; omega, by dsimp only; rw [List.length_take]; omega, by dsimp only; rw [List.length_take]; omega, by dsimp only; rw [List.length_take]; omega⟩
theorem base9 : vbytes ((Vector.replicate 8 (0 : Int)).setIfInBounds 0 9) := by
 unfold vbytes bytesL isB
 decide
theorem keysHoldT (N : Nat) (hN : 70000 ≤ N) (hw : p_umbralaw36_works N = some true) (w : S_umbralaw36_Wrapped) (hm : vbytes w.gMaster) (t : ManT w.gM) (a : S_api_Asset) (l : List S_umbralaw36_Act) : p_umbralaw36_KeysHold N w a l = some true := by
 unfold p_umbralaw36_KeysHold
 obtain ⟨r1, e1, hA⟩ := few18 N (S_umbralaw18_Act.mk 0 0 (S_api_Manifest.mk 0 0 0 (Vector.replicate 8 0) 0 0 0 0) a (S_api_Inst.mk 0 0 0 0 (S_api_Affine.mk (Vector.replicate 9 0) (S_api_Vec.mk 0 0 0))))
 have hi := wrapN w.gId 65535 (by decide) (by decide)
 have he := wrapN w.gEpoch 3 (by decide) (by decide)
 rw [show ((65535 : Nat) : Int) = 65535 from rfl] at hi
 rw [show ((3 : Nat) : Int) = 3 from rfl] at he
 rw [e1, Option.bind_some]
 simp only [letO_e]
 generalize hid : I64 (Int.tmod (I64 (Int.tmod w.gId 65535 + 65535)) 65535 + 1) = id at *
 generalize hep : I64 (Int.tmod (I64 (Int.tmod w.gEpoch 3 + 3)) 3 + 1) = ep at *
 obtain ⟨r8, e8, h8⟩ := wrapT N hN w.gMaster hm hi ⟨he.1, by omega⟩ _ base9 w.gM r1.gA t hA
 rw [e8, Option.bind_some, show p_keys_New N w.gMaster = some () from rfl, Option.bind_some, hw]
 rcases h8 with ⟨h1, man, b, h2, h3⟩ | ⟨h1, h2⟩
 rotate_left
 ·rw [show (r8.2 != 0) = true by simpa using h1, cond_true, h2]
  rfl
 rw [h1, show ((0 : Int) != 0) = false from rfl, cond_false]
 have hadd : p_keys_Ring_Add_rd N [] id w.gMaster = some (mput [] id (S_keys_span.mk 1 1), 0) := by
  unfold p_keys_Ring_Add_rd p_keys_between
  rw [show p_keys_Ring_none_r N [] w.gMaster = some () from rfl, Option.bind_some, letO_e, dt hi.1, dt hi.2]
  rfl
 rw [hadd, Option.bind_some]
 obtain ⟨o, eo, q, rfl⟩ := holdL N hN l w hm hi ⟨he.1, by omega⟩ hid hep r8 r1 hA h2 h3 N 0 (mput [] id (S_keys_span.mk 1 1)) false (S_keys_span.mk 1 1) (RingI.put (by intro k s e; cases e) ⟨by decide, by decide, by decide⟩) (mget_put_self _ _ _) (fun e => by cases e) (by omega) (by omega)
 rw [show ((0 : Nat) : Int) = 0 from rfl] at eo
 rw [eo, Option.bind_some]
 rfl
end Go.UK
