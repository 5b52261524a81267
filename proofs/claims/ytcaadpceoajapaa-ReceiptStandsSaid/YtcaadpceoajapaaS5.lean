/- A part of the proof: what the functions of the program compute. -/
import Derived.Test.YtcaadpceoajapaaS4
namespace Go.UK
open Go Go.Proofs
set_option maxRecDepth 20000
set_option maxHeartbeats 1000000
set_option linter.all false
attribute [local irreducible] cmpV
/-! ### a sum's bytes -/
def out8 (h : Vector Int 8) : Vector Int 32 := #v[U8 (shr .u32 h[0] 24), U8 (shr .u32 h[0] 16), U8 (shr .u32 h[0] 8), U8 h[0], U8 (shr .u32 h[1] 24), U8 (shr .u32 h[1] 16), U8 (shr .u32 h[1] 8), U8 h[1],
  U8 (shr .u32 h[2] 24), U8 (shr .u32 h[2] 16), U8 (shr .u32 h[2] 8), U8 h[2], U8 (shr .u32 h[3] 24), U8 (shr .u32 h[3] 16), U8 (shr .u32 h[3] 8), U8 h[3],
  U8 (shr .u32 h[4] 24), U8 (shr .u32 h[4] 16), U8 (shr .u32 h[4] 8), U8 h[4], U8 (shr .u32 h[5] 24), U8 (shr .u32 h[5] 16), U8 (shr .u32 h[5] 8), U8 h[5],
  U8 (shr .u32 h[6] 24), U8 (shr .u32 h[6] 16), U8 (shr .u32 h[6] 8), U8 h[6], U8 (shr .u32 h[7] 24), U8 (shr .u32 h[7] 16), U8 (shr .u32 h[7] 8), U8 h[7]]
theorem shr0 (a : Int) : shr .u32 a 0 = a := by unfold shr; simp
theorem outP (N K : Nat) (h : Vector Int 8) (blk : Vector Int 64) (n : Int) : p_sha_Hash_Sum_r_L1 N (h, blk, n) (K + 9) (Vector.replicate 32 0) 0 = some (out8 h) := by
  rw [vec8 h]
  generalize h[0] = a0
  generalize h[1] = a1
  generalize h[2] = a2
  generalize h[3] = a3
  generalize h[4] = a4
  generalize h[5] = a5
  generalize h[6] = a6
  generalize h[7] = a7
  kernel_rfl
theorem outR (N K : Nat) (h : Vector Int 8) : p_umbraref09_Sum_L3 N h (K + 33) (Vector.replicate 32 0) 0 = some (out8 h) := by
  have e : out8 h = #v[U8 (shr .u32 h[0] 24), U8 (shr .u32 h[0] 16), U8 (shr .u32 h[0] 8), U8 (shr .u32 h[0] 0), U8 (shr .u32 h[1] 24), U8 (shr .u32 h[1] 16), U8 (shr .u32 h[1] 8), U8 (shr .u32 h[1] 0),
    U8 (shr .u32 h[2] 24), U8 (shr .u32 h[2] 16), U8 (shr .u32 h[2] 8), U8 (shr .u32 h[2] 0), U8 (shr .u32 h[3] 24), U8 (shr .u32 h[3] 16), U8 (shr .u32 h[3] 8), U8 (shr .u32 h[3] 0),
    U8 (shr .u32 h[4] 24), U8 (shr .u32 h[4] 16), U8 (shr .u32 h[4] 8), U8 (shr .u32 h[4] 0), U8 (shr .u32 h[5] 24), U8 (shr .u32 h[5] 16), U8 (shr .u32 h[5] 8), U8 (shr .u32 h[5] 0),
    U8 (shr .u32 h[6] 24), U8 (shr .u32 h[6] 16), U8 (shr .u32 h[6] 8), U8 (shr .u32 h[6] 0), U8 (shr .u32 h[7] 24), U8 (shr .u32 h[7] 16), U8 (shr .u32 h[7] 8), U8 (shr .u32 h[7] 0)] := by
    simp only [shr0]
    rfl
  rw [e]
  conv => lhs; rw [vec8 h]
  generalize h[0] = a0
  generalize h[1] = a1
  generalize h[2] = a2
  generalize h[3] = a3
  generalize h[4] = a4
  generalize h[5] = a5
  generalize h[6] = a6
  generalize h[7] = a7
  kernel_rfl
theorem out8_bytes (h : Vector Int 8) : bytesL (out8 h).toList := by
  intro x hx
  unfold out8 at hx
  simp only [Vector.toList_mk, List.mem_cons, List.not_mem_nil, or_false] at hx
  rcases hx with h | h | h | h | h | h | h | h | h | h | h | h | h | h | h | h | h | h | h | h | h | h | h | h | h | h | h | h | h | h | h | h <;> (subst h; exact U8_b _)
/-! ### the sum of a message -/
def endM (m : List Int) : Vector Int 8 := blks (m ++ padV m.length) ((m.length + (padZ m.length + 9)) / 64)
def shaV (m : List Int) : Vector Int 32 := out8 (endM m)
theorem shaV_bytes (m : List Int) : bytesL (shaV m).toList := out8_bytes _
theorem hok0 : HOK [] H0 (Vector.replicate 64 0) 0 := ⟨rfl, rfl, by intro i hi; simp at hi⟩
theorem sumP (N : Nat) (hN : 100 < N) {m : List Int} {h : Vector Int 8} {blk : Vector Int 64} {n : Int} (H : HOK m h blk n) (hm : bytesL m) (hl : m.length < 4000000000000000000) : p_sha_Hash_Sum_r N (S_sha_Hash.mk h blk n) = some (shaV m) := by
  have hz : padZ m.length < 64 := by unfold padZ; omega
  obtain ⟨M, rfl⟩ : ∃ M, N = M + 9 := ⟨N - 9, by omega⟩
  unfold p_sha_Hash_Sum_r
  rw [none_ok _ H, Option.bind_some, cond_false]
  show Option.bind (p_sha_Pad (M + 9) n) _ = _
  obtain ⟨h', blk', n', e1, e2⟩ := writeP (M + 9) (by omega) H hm [padV m.length] (by intro p hp; simp at hp; subst hp; exact padV_bytes _) (by intro p hp; simp at hp; subst hp; rw [padV_len]; omega) (by simp) (by simp) (by simp [padV_len]; omega)
  rw [H.n] at e1 ⊢
  rw [padP (M + 9) (by omega) m.length (by omega), Option.bind_some, e1, Option.bind_some, outP, Option.bind_some]
  have e3 := e2.h
  simp only [List.flatten_cons, List.flatten_nil, List.append_nil, List.length_append, padV_len] at e3
  rw [e3]
  rfl
theorem shaP (N : Nat) (hN : 100 < N) (ps : List (List Int)) (hb : ∀ p ∈ ps, bytesL p) (hlen : ∀ p ∈ ps, p.length < N) (hps : ps.length < N) (hl : ps.flatten.length < 4000000000000000000) (hps2 : ps.length < 4000000000000000000) : p_sha_Sum N ps = some (shaV ps.flatten) := by
  unfold p_sha_Sum
  obtain ⟨h', blk', n', e1, e2⟩ := writeP N (by omega) hok0 (by intro x hx; cases hx) ps hb hlen hps (by omega) (by simp; simp at hl; omega)
  rw [show p_sha_New N = some () from rfl, Option.bind_some]
  show Option.bind (p_sha_Hash_Write_rd N ps (S_sha_Hash.mk H0 (Vector.replicate 64 0) 0)) _ = _
  rw [e1, Option.bind_some]
  have hb' : bytesL ps.flatten := by
    intro x hx
    obtain ⟨p, hp, hx⟩ := List.mem_flatten.1 hx
    exact hb p hp x hx
  rw [List.nil_append] at e2
  show Option.bind (p_sha_Hash_Sum_r N (S_sha_Hash.mk h' blk' n')) _ = _
  rw [sumP N hN e2 hb' hl, Option.bind_some]
/-! the same, by the document -/
theorem blockR (N : Nat) (hN : 64 < N) (all : List Int) (j : Nat) (hj : 64 * j + 64 ≤ all.length) (hl : all.length < 4611686018427387904) : p_umbraref09_Sum_L2 N all ((64 * j : Nat) : Int) N (Vector.replicate 64 0) 0 = some (blockAt all j) := by
  obtain ⟨v, h1, h2⟩ := loopVec0 (m := 64) (by decide) (fun i => all.getD (64 * j + i) 0) (p_umbraref09_Sum_L2 N all ((64 * j : Nat) : Int)) (fun k v i hi => by
    have f : I64 (((64 * j : Nat) : Int) + (i : Int)) = ((64 * j + i : Nat) : Int) := by rw [I64_id (by omega) (by omega)]; omega
    rw [p_umbraref09_Sum_L2, dt (show (i : Int) < 64 by omega), cond_true, f, idx_D (by omega), Option.bind_some, inRO_ok (by omega) (by omega), Option.bind_some, Int.toNat_natCast, vget v i hi, Option.bind_some]) (fun k v => by rw [p_umbraref09_Sum_L2, df (by omega), cond_false]) (N := N) (by omega) (Vector.replicate 64 0)
  rw [h1]
  refine congrArg some ?_
  apply blk_ext
  intro i hi
  rw [blockAt_get _ _ _ hi, h2, List.getD_eq_getElem?_getD, List.getElem?_map, List.getElem?_range hi]
  rfl
theorem sumL1 (N : Nat) (hN : 64 < N) (all : List Int) (hb : bytesL all) (hl : all.length < 4611686018427387904) : ∀ (k j : Nat), 64 * j ≤ all.length → all.length / 64 - j < k → p_umbraref09_Sum_L1 N all k (blks all j) ((64 * j : Nat) : Int) = some (blks all (all.length / 64))
  | 0, _, _, h => by omega
  | k + 1, j, hj, hk => by
    have f : I64 (((64 * j : Nat) : Int) + 64) = ((64 * (j + 1) : Nat) : Int) := by rw [I64_id (by omega) (by omega)]; omega
    rw [p_umbraref09_Sum_L1, letO_e, f]
    by_cases h : 64 * (j + 1) ≤ all.length
    · rw [dt (by omega), cond_true, blockR N hN all j (by omega) hl, Option.bind_some, cmpR N hN _ _ (hb.block j), Option.bind_some]
      exact sumL1 N hN all hb hl k (j + 1) h (by omega)
    · rw [df (by omega), cond_false, show all.length / 64 = j by omega]
theorem shaR (N : Nat) (hN : 100 < N) (m : List Int) (hm : bytesL m) (hl : m.length ≤ 100000000000000) (hlN : m.length < N) : p_umbraref09_Sum N m = some (shaV m) := by
  have hz : padZ m.length < 64 := by unfold padZ; omega
  unfold p_umbraref09_Sum
  rw [appO_ok (by simp; omega), Option.bind_some, List.nil_append, padR N (by omega) m.length (by omega), Option.bind_some, appO_ok (by rw [padV_len]; omega), Option.bind_some]
  have hall : (m ++ padV m.length).length = m.length + (padZ m.length + 9) := by rw [List.length_append, padV_len]
  have h1 := sumL1 N (by omega) (m ++ padV m.length) (hm.app (padV_bytes _)) (by rw [hall]; omega) N 0 (by omega) (by rw [hall]; omega)
  rw [show ((64 * 0 : Nat) : Int) = 0 from rfl] at h1
  show Option.bind (p_umbraref09_Sum_L1 N (m ++ padV m.length) N (blks (m ++ padV m.length) 0) 0) _ = _
  rw [h1, Option.bind_some, hall]
  obtain ⟨M, rfl⟩ : ∃ M, N = M + 33 := ⟨N - 33, by omega⟩
  rw [outR, Option.bind_some]
  rfl
end Go.UK
