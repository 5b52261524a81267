/- A part of the proof: what the functions of the program compute. -/
import Derived.Test.YtcaadpceoajapaaS14
namespace Go.UK
open Go Go.Proofs
set_option maxRecDepth 20000
set_option maxHeartbeats 1000000
set_option linter.all false
/-! ### what is written is read -/
theorem modStep (x p : Int) (hp : 0 < p) : x % p + (x / p % 256) * p = x % (p * 256) := by
  have e1 : x = p * (x / p) + x % p := (Int.mul_ediv_add_emod x p).symm
  have e2 : x / p = 256 * (x / p / 256) + x / p % 256 := (Int.mul_ediv_add_emod (x / p) 256).symm
  have b1 : 0 ≤ x % p := Int.emod_nonneg _ (by omega)
  have b2 : x % p < p := Int.emod_lt_of_pos _ hp
  have b3 : 0 ≤ x / p % 256 := Int.emod_nonneg _ (by decide)
  have b4 : x / p % 256 < 256 := Int.emod_lt_of_pos _ (by decide)
  generalize x / p % 256 = c at *
  generalize x / p / 256 = q at *
  have e3 : x = (x % p + c * p) + (p * 256) * q := by
    have h1 : p * (x / p) = p * (256 * q + c) := by rw [← e2]
    rw [h1] at e1
    have : p * (256 * q + c) = (p * 256) * q + c * p := by rw [Int.mul_add, ← Int.mul_assoc, Int.mul_comm p c]
    rw [this] at e1
    omega
  have h1 : 0 ≤ c * p := Int.mul_nonneg b3 (by omega)
  have h2 : c * p ≤ 255 * p := Int.mul_le_mul_of_nonneg_right (by omega) (by omega)
  have h3 : x % (p * 256) = (x % p + c * p) % (p * 256) := by
    conv => lhs; rw [e3]
    rw [Int.add_mul_emod_self_left]
  rw [h3]
  exact (Int.emod_eq_of_lt (by omega) (by omega)).symm
theorem numLe (x : Int) : ∀ w : Nat, w ≤ 8 → numV (leB w x) = x % p256 w
  | 0, _ => by
    show (0 : Int) = x % p256 0
    rw [show p256 0 = 1 from rfl]
    omega
  | w + 1, h => by
    have e : leB (w + 1) x = leB w x ++ [U8 (shr .u64 x ((8 * w : Nat) : Int))] := by unfold leB; rw [List.range_succ, List.map_append]; rfl
    rw [e, numV_app, numLe x w (by omega), leB_len, shr8 x w (by omega), U8_e, p256_s, modStep x _ (p256_pos w)]
theorem rdTake (N : Nat) (x rest : List Int) (hx : bytesL (x ++ rest)) (hl : (x ++ rest).length ≤ 1000000) : p_codec_Reader_Take_rd N (x.length : Int) (S_codec_Reader.mk (x ++ rest) 0 true) = some (rest, 0, x) := by
  have R0 : RL (x ++ rest) (x ++ rest) 0 0 0 := ⟨rfl, fun _ => ⟨0, rfl, by omega, rfl⟩⟩
  obtain ⟨b', e', At', out, h1, _, h3, _, _, _, h7, _⟩ := takeB N R0 hx hl x.length (by simp at hl; omega)
  obtain ⟨rfl, rfl, rfl⟩ := h7 rfl 0 rfl (by simp)
  obtain ⟨a, ha, _, hb⟩ := h3.ok rfl
  have : a = 0 + x.length := by omega
  subst this
  rw [h1, hb]
  simp
theorem rdNum (N : Nat) (hN : 8 < N) (x rest : List Int) (hx : bytesL (x ++ rest)) (hl : (x ++ rest).length ≤ 1000000) (h0 : 1 ≤ x.length) (h8 : x.length ≤ 8) : p_codec_Reader_Num_rd N (x.length : Int) (S_codec_Reader.mk (x ++ rest) 0 true) = some (rest, 0, numV x) := by
  have R0 : RL (x ++ rest) (x ++ rest) 0 0 0 := ⟨rfl, fun _ => ⟨0, rfl, by omega, rfl⟩⟩
  obtain ⟨b', e', At', v, h1, _, h3, _, _, h7, _⟩ := numB N hN R0 hx hl x.length h0 h8
  obtain ⟨rfl, rfl, rfl⟩ := h7 rfl 0 rfl (by simp)
  obtain ⟨a, ha, _, hb⟩ := h3.ok rfl
  have : a = 0 + x.length := by omega
  subst this
  rw [h1, hb]
  simp
theorem rdInt (N : Nat) (hN : 8 < N) (x rest : List Int) (hx : bytesL (x ++ rest)) (hl : (x ++ rest).length ≤ 1000000) (h8 : x.length = 8) : p_codec_Reader_Int_rd N 8 (S_codec_Reader.mk (x ++ rest) 0 true) = some (rest, 0, I64 (numV x)) := by
  have R0 : RL (x ++ rest) (x ++ rest) 0 0 0 := ⟨rfl, fun _ => ⟨0, rfl, by omega, rfl⟩⟩
  obtain ⟨b', e', At', v, h1, _, h3, _, h7⟩ := intB N hN R0 hx hl
  obtain ⟨rfl, rfl, rfl⟩ := h7 rfl 0 rfl (by simp; omega)
  obtain ⟨a, ha, _, hb⟩ := h3.ok rfl
  have : a = 0 + 8 := by omega
  subst this
  rw [h1, hb, ← h8]
  simp
theorem rdInt8 (N : Nat) (hN : 8 < N) (y : Int) (hy : in64 y) (rest : List Int) (hx : bytesL rest) (hl : rest.length ≤ 999000) : p_codec_Reader_Int_rd N 8 (S_codec_Reader.mk (leB 8 (y % 18446744073709551616) ++ rest) 0 true) = some (rest, 0, y) := by
  rw [rdInt N hN _ rest ((leB_bytes _ _).app hx) (by simp [leB_len]; omega) (leB_len _ _), numLe _ 8 (by omega)]
  have : p256 8 = 18446744073709551616 := rfl
  rw [this, Int.emod_emod_of_dvd _ (Int.dvd_refl _), I64_e]
  have := hy.1
  have := hy.2
  congr 3
  omega
theorem rdVec (N : Nat) (v : Vector Int 32) (hv : vbytes v) (rest : List Int) (hx : bytesL rest) (hl : rest.length ≤ 999000) : p_codec_Reader_Take_rd N 32 (S_codec_Reader.mk (v.toList ++ rest) 0 true) = some (rest, 0, v.toList) := by
  have h := rdTake N v.toList rest (hv.app hx) (by simp; omega)
  rw [show ((v.toList.length : Nat) : Int) = 32 by simp] at h
  exact h
theorem cpBack (v : Vector Int 32) : cpV (Vector.replicate 32 (0 : Int)) v.toList 0 32 = some v := by
  obtain ⟨u, h1, h2⟩ := cpV32 (d := v.toList)
  rw [h1, Vector.toList_inj.1 (h2 (by simp))]
theorem decEnc (N : Nat) (hN : 200 < N) (r : S_api_Receipt) (h : RecOK r) : p_receipt_Decode N (encV r) = some (r, 0) := by
  have e : encV r = leB 8 (r.gLayer % 18446744073709551616) ++ (leB 8 (r.gSeq % 18446744073709551616) ++ (leB 8 (r.gWho % 18446744073709551616) ++ (leB 4 r.gClock ++ (r.gSum.toList ++ (r.gHead.toList ++ (r.gTag.toList ++ [])))))) := by
    unfold encV s8
    simp only [List.map_cons, List.map_nil, List.flatMap_cons, List.flatMap_nil, List.append_assoc, List.append_nil, List.nil_append]
  have z0 : bytesL ([] : List Int) := fun a ha => by cases ha
  have z1 : bytesL (r.gTag.toList ++ []) := h.tag.app z0
  have z2 : bytesL (r.gHead.toList ++ (r.gTag.toList ++ [])) := h.head.app z1
  have z3 : bytesL (r.gSum.toList ++ (r.gHead.toList ++ (r.gTag.toList ++ []))) := h.sum.app z2
  have z4 := (leB_bytes 4 r.gClock).app z3
  have z5 := (leB_bytes 8 (r.gWho % 18446744073709551616)).app z4
  have z6 := (leB_bytes 8 (r.gSeq % 18446744073709551616)).app z5
  have n4 := rdNum N (by omega) (leB 4 r.gClock) _ z4 (by simp [leB_len]) (by simp [leB_len]) (by simp [leB_len])
  rw [leB_len, numLe _ 4 (by omega), show p256 4 = 4294967296 from rfl, Int.emod_eq_of_lt h.clock.1 (by have := h.clock.2; omega)] at n4
  have n4 : p_codec_Reader_Num_rd N 4 _ = _ := n4
  unfold p_receipt_Decode p_codec_New
  have i0 : inRO 0 3 = some () := rfl
  have i1 : inRO 1 3 = some () := rfl
  have i2 : inRO 2 3 = some () := rfl
  have sb : slcB 32 0 32 = some () := rfl
  rw [clone1 N (encV r) (by rw [encV_len]; omega), Option.bind_some, Option.bind_some, e]
  dsimp only
  rw [rdInt8 N (by omega) _ h.layer _ z6 (by simp [leB_len]), Option.bind_some]
  dsimp only
  rw [rdInt8 N (by omega) _ h.seq _ z5 (by simp [leB_len]), Option.bind_some]
  dsimp only
  rw [rdInt8 N (by omega) _ h.who _ z4 (by simp [leB_len]), Option.bind_some]
  dsimp only
  rw [n4, Option.bind_some, i0, Option.bind_some, sb, Option.bind_some]
  dsimp only
  rw [rdVec N _ h.sum _ z2 (by simp), Option.bind_some]
  dsimp only
  rw [cpBack, Option.bind_some, i1, Option.bind_some, Option.bind_some, rdVec N _ h.head _ z1 (by simp), Option.bind_some]
  dsimp only
  rw [cpBack, Option.bind_some, i2, Option.bind_some, Option.bind_some, rdVec N _ h.tag _ z0 (by simp), Option.bind_some]
  dsimp only
  rw [cpBack, Option.bind_some, show p_codec_Reader_End_r N (S_codec_Reader.mk [] 0 true) = some 0 from rfl, Option.bind_some, show ((0 : Int) != 0) = false from rfl, cond_false, U32_e, Int.emod_eq_of_lt h.clock.1 (by have := h.clock.2; omega)]
end Go.UK
