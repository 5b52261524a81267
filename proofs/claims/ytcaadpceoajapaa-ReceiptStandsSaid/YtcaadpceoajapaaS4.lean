/- A part of the proof: what the functions of the program compute. -/
import Derived.Test.YtcaadpceoajapaaS3
namespace Go.UK
open Go Go.Proofs
set_option maxRecDepth 20000
set_option maxHeartbeats 1000000
set_option linter.all false
attribute [local irreducible] cmpV
/-! ### what stands behind a message -/
def bitsV (n : Nat) : Int := shl .u64 (U64 (n : Int)) 3
def beB (n : Nat) (j : Nat) : Int := U8 (shr .u64 (bitsV n) ((8 * (7 - j) : Nat) : Int))
def padZ (n : Nat) : Nat := (119 - n % 64) % 64
def padV (n : Nat) : List Int := (128 :: List.replicate (padZ n) 0) ++ (List.range 8).map (beB n)
theorem padV_len (n : Nat) : (padV n).length = padZ n + 9 := by unfold padV; simp
theorem padV_bytes (n : Nat) : bytesL (padV n) := by
  intro x hx
  unfold padV at hx
  rcases List.mem_append.1 hx with h | h
  · rcases List.mem_cons.1 h with h | h
    · subst h; exact ⟨by decide, by decide⟩
    · have := List.eq_of_mem_replicate h; subst this; exact ⟨by decide, by decide⟩
  · obtain ⟨j, _, rfl⟩ := List.mem_map.1 h; exact U8_b _
theorem pad_mod (n : Nat) : (n + (padZ n + 9)) % 64 = 0 := by unfold padZ; omega
def fillP (B : Nat → Int) (i : Nat) : List Int := (List.range 8).map (fun j => if 8 ≤ j + i then B j else 0)
theorem fillP_set (B : Nat → Int) : ∀ i, i < 8 → (fillP B i).set (7 - i) (B (7 - i)) = fillP B (i + 1)
  | 0, _ => rfl
  | 1, _ => rfl
  | 2, _ => rfl
  | 3, _ => rfl
  | 4, _ => rfl
  | 5, _ => rfl
  | 6, _ => rfl
  | 7, _ => rfl
theorem fillP_8 (B : Nat → Int) : fillP B 8 = (List.range 8).map B := rfl
theorem fillP_0 (B : Nat → Int) : fillP B 0 = List.replicate 8 0 := rfl
theorem padP (N : Nat) (hN : 8 < N) (n : Nat) (hn : n < 4611686018427387904) : p_sha_Pad N (n : Int) = some (padV n) := by
  unfold p_sha_Pad
  have hz : padZ n < 64 := by unfold padZ; omega
  have e0 : imax (n : Int) 0 = (n : Int) := by unfold imax; split <;> omega
  have e1 : Int.tmod (I64 (119 - (((n % 64 : Nat)) : Int))) 64 = (padZ n : Int) := by
    rw [show I64 (119 - ((n % 64 : Nat) : Int)) = ((119 - n % 64 : Nat) : Int) by rw [I64_id (by omega) (by omega)]; omega, show (64 : Int) = ((64 : Nat) : Int) from rfl, tmod_nat]
    rfl
  have e2 : I64 (I64 (1 + (padZ n : Int)) + 8) = ((padZ n + 9 : Nat) : Int) := by
    rw [I64_id (x := 1 + (padZ n : Int)) (by omega) (by omega), I64_id (by omega) (by omega)]; omega
  rw [letO_e, e0, show Int.tmod (n : Int) 64 = ((n % 64 : Nat) : Int) from tmod_nat n 64, letO_e, e1, letO_e, e2, Int.toNat_natCast]
  have e3 : mkO 1 ((padZ n + 9 : Nat) : Int) = some () := by
    unfold mkO
    rw [dt (show (0 : Int) ≤ ((padZ n + 9 : Nat) : Int) by omega), dt (show ((padZ n + 9 : Nat) : Int) ≤ 140737488355328 by omega), dt (show ((padZ n + 9 : Nat) : Int) * ((1 : Nat) : Int) ≤ 140737488355328 by omega)]
    rfl
  rw [e3, Option.bind_some, inRO_ok (by omega) (by omega), Option.bind_some, show ((0 : Int).toNat) = 0 from rfl, List.getElem?_replicate, if_pos (by omega), Option.bind_some]
  have e4 : (List.replicate (padZ n + 9) (0 : Int)).set 0 128 = (128 :: List.replicate (padZ n) 0) ++ fillP (beB n) 0 := by
    rw [fillP_0, show padZ n + 9 = (padZ n + 8) + 1 by omega, List.replicate_succ, List.set_cons_zero, List.cons_append, List.replicate_append_replicate]
  rw [e4]
  obtain ⟨v, h1, h2⟩ := loopI 8 (by decide) (fun i (l : List Int) => l = (128 :: List.replicate (padZ n) 0) ++ fillP (beB n) i) (fun k l i => p_sha_Pad_L1 N ((padZ n + 9 : Nat) : Int) (n : Int) k l i) (fun k l i hi hl => by
    refine ⟨_, rfl, ?_⟩
    have hlen : l.length = padZ n + 9 := by rw [hl]; simp [fillP]
    have f1 : I64 (((padZ n + 9 : Nat) : Int) - 1) = ((padZ n + 8 : Nat) : Int) := by rw [I64_id (by omega) (by omega)]; omega
    have f2 : I64 (((padZ n + 8 : Nat) : Int) - (i : Int)) = ((padZ n + 8 - i : Nat) : Int) := by rw [I64_id (by omega) (by omega)]; omega
    have f3 : I64 (8 * (i : Int)) = ((8 * i : Nat) : Int) := by rw [I64_id (by omega) (by omega)]; omega
    rw [p_sha_Pad_L1, dt (show (i : Int) < 8 by omega), cond_true, Int.toNat_natCast, letO_e, f1, letO_e, e0, f3, shrO_ok .u64 (by omega), Option.bind_some, f2, inRO_ok (by omega) (by omega), Option.bind_some, Int.toNat_natCast, get_getD (by omega), Option.bind_some]
    have hset : l.set (padZ n + 8 - i) (U8 (shr .u64 (bitsV n) ((8 * i : Nat) : Int))) = (128 :: List.replicate (padZ n) 0) ++ fillP (beB n) (i + 1) := by
      rw [hl, List.set_append_right _ _ (by simp; omega), ← fillP_set _ i hi, show padZ n + 8 - i - (128 :: List.replicate (padZ n) (0 : Int)).length = 7 - i by simp; omega]
      unfold beB
      rw [show 8 * (7 - (7 - i)) = 8 * i by omega]
    show p_sha_Pad_L1 N ((padZ n + 9 : Nat) : Int) (n : Int) k (l.set (padZ n + 8 - i) (U8 (shr .u64 (bitsV n) ((8 * i : Nat) : Int)))) _ = _
    rw [hset]) (fun k l => by rw [p_sha_Pad_L1, df (by omega), cond_false]) N 0 _ rfl (by omega) (by omega)
  rw [show ((0 : Nat) : Int) = 0 from rfl] at h2
  rw [h2, Option.bind_some, h1, fillP_8]
  have : lenO (128 :: List.replicate (padZ n) 0 ++ List.map (beB n) (List.range 8)) (padZ n + 9) = some () := by
    unfold lenO
    rw [show (128 :: List.replicate (padZ n) (0 : Int) ++ List.map (beB n) (List.range 8)).length = padZ n + 9 by simp, show Nat.beq (padZ n + 9) (padZ n + 9) = true from Nat.beq_refl _]
    rfl
  rw [this, Option.bind_some]
  rfl
/-! the same, by the document -/
theorem appO1 {l r : List Int} (h : l.length ≤ 1000000) (h' : r.length ≤ 1000000) : appO 1 l r = some (l ++ r) := appO_ok (by omega)
theorem padL1 (N : Nat) (n : Nat) (hn : n < 4611686018427387904) : ∀ (k j : Nat), j ≤ padZ n → padZ n - j < k → p_umbraref09_Pad_L1 N (n : Int) k (128 :: List.replicate j 0) = some (128 :: List.replicate (padZ n) 0)
  | 0, _, _, h => by omega
  | k + 1, j, hj, hk => by
    have hz : padZ n < 64 := by unfold padZ; omega
    have e1 : I64 (Int.tmod (n : Int) 64 + ((128 :: List.replicate j (0 : Int)).length : Int)) = ((n % 64 + (j + 1) : Nat) : Int) := by
      rw [show Int.tmod (n : Int) 64 = ((n % 64 : Nat) : Int) from tmod_nat n 64, I64_id (by simp; omega) (by simp; omega)]
      simp
    have e2 : Int.tmod (I64 (((n % 64 + (j + 1) : Nat) : Int) + 8)) 64 = (((n % 64 + (j + 9)) % 64 : Nat) : Int) := by
      rw [show I64 (((n % 64 + (j + 1) : Nat) : Int) + 8) = ((n % 64 + (j + 9) : Nat) : Int) by rw [I64_id (by omega) (by omega)]; omega]
      exact tmod_nat _ 64
    rw [p_umbraref09_Pad_L1, letO_e, e1, letO_e, e2]
    by_cases h : j < padZ n
    · rw [dt (by unfold padZ at h; omega), cond_true, appO1 (by simp; omega) (by simp), Option.bind_some, List.cons_append, show ([0] : List Int) = List.replicate 1 0 from rfl, List.replicate_append_replicate]
      exact padL1 N n hn k (j + 1) (by omega) (by omega)
    · obtain rfl : j = padZ n := by omega
      rw [df (by unfold padZ; omega), cond_false]
theorem bits_eq (n : Nat) : U64 (U64 (n : Int) * 8) = bitsV n := by
  unfold bitsV
  rw [shl_e _ 3 3 rfl (by decide), U64_e (U64 (n : Int) * 8)]
  rfl
theorem take_succ_map {n : Nat} (B : Nat → Int) {t : Nat} (h : t < n) : ((List.range n).map B).take (t + 1) = ((List.range n).map B).take t ++ [B t] := by
  rw [List.take_succ, List.getElem?_map, List.getElem?_range h]
  rfl
theorem padL2 (N : Nat) (n : Nat) (hn : n < 4611686018427387904) (P : List Int) (hP : P.length ≤ 100) : ∀ (k t : Nat), t ≤ 8 → 8 - t < k → p_umbraref09_Pad_L2 N (n : Int) k (P ++ ((List.range 8).map (beB n)).take t) (7 - (t : Int)) = some (P ++ (List.range 8).map (beB n))
  | 0, _, _, h => by omega
  | k + 1, t, ht, hk => by
    rw [p_umbraref09_Pad_L2]
    by_cases h : t < 8
    · have f3 : I64 (8 * (7 - (t : Int))) = ((8 * (7 - t) : Nat) : Int) := by rw [I64_id (by omega) (by omega)]; omega
      have f4 : I64 (7 - (t : Int) - 1) = 7 - ((t + 1 : Nat) : Int) := by rw [I64_id (by omega) (by omega)]; omega
      rw [dt (by omega), cond_true, f3, shrO_ok .u64 (by omega), Option.bind_some, appO1 (by simp; omega) (by simp), Option.bind_some, f4, bits_eq, List.append_assoc]
      have : ((List.range 8).map (beB n)).take t ++ [U8 (shr .u64 (bitsV n) ((8 * (7 - t) : Nat) : Int))] = ((List.range 8).map (beB n)).take (t + 1) := (take_succ_map (beB n) h).symm
      rw [this]
      exact padL2 N n hn P hP k (t + 1) (by omega) (by omega)
    · obtain rfl : t = 8 := by omega
      rw [df (by omega), cond_false, List.take_of_length_le (by simp)]
theorem padR (N : Nat) (hN : 64 < N) (n : Nat) (hn : n < 4611686018427387904) : p_umbraref09_Pad N (n : Int) = some (padV n) := by
  unfold p_umbraref09_Pad
  have hz : padZ n < 64 := by unfold padZ; omega
  have h1 := padL1 N n hn N 0 (by omega) (by omega)
  rw [List.replicate_zero] at h1
  have h2 := padL2 N n hn (128 :: List.replicate (padZ n) 0) (by simp; omega) N 0 (by omega) (by omega)
  rw [List.take_zero, List.append_nil, show (7 - ((0 : Nat) : Int)) = 7 from rfl] at h2
  rw [df (show ¬ (n : Int) < 0 by omega), cond_false, Option.bind_some, h1, Option.bind_some, h2, Option.bind_some]
  rfl
end Go.UK
