/- A part of the proof: what the functions of the program compute. -/
import Derived.Test.YtcaadpceoajapaaS1
import Derived.KernelRfl
namespace Go.UK
open Go Go.Proofs
set_option maxRecDepth 20000
set_option maxHeartbeats 2000000
set_option linter.all false
theorem vec8 (s : Vector Int 8) : s = #v[s[0], s[1], s[2], s[3], s[4], s[5], s[6], s[7]] := by
  apply Vector.ext
  intro i hi
  match i, hi with
  | 0, _ => rfl
  | 1, _ => rfl
  | 2, _ => rfl
  | 3, _ => rfl
  | 4, _ => rfl
  | 5, _ => rfl
  | 6, _ => rfl
  | 7, _ => rfl
/-! ### the rounds -/
def sum1 (x : Int) : Int := bxor .u32 (bxor .u32 (rotV x 6) (rotV x 11)) (rotV x 25)
def sum0 (x : Int) : Int := bxor .u32 (bxor .u32 (rotV x 2) (rotV x 13)) (rotV x 22)
def t1V (s : Vector Int 8) (k w : Int) : Int := U32 (U32 (U32 (U32 (s[7] + sum1 s[4]) + bxor .u32 (band .u32 s[4] s[5]) (band .u32 (bnot .u32 s[4]) s[6])) + k) + w)
def t2V (s : Vector Int 8) : Int := U32 (sum0 s[0] + bxor .u32 (bxor .u32 (band .u32 s[0] s[1]) (band .u32 s[0] s[2])) (band .u32 s[1] s[2]))
def stp (s : Vector Int 8) (k w : Int) : Vector Int 8 := #v[U32 (t1V s k w + t2V s), s[0], s[1], s[2], U32 (s[3] + t1V s k w), s[4], s[5], s[6]]
def kV (i : Nat) : Int := cst_p_sha_Compress_058597.toList.getD i 0
def rndV (w : List Int) (h : Vector Int 8) : Nat → Vector Int 8
  | 0 => h
  | i + 1 => stp (rndV w h i) (kV i) (w.getD i 0)
theorem cmpL2 (N : Nat) (p : Vector Int 64) (h : Vector Int 8) (hN : 64 < N) : p_sha_Compress_L2 N p N h 0 = some (rndV p.toList h 64) := by
  obtain ⟨v, h1, h2⟩ := loopI 64 (by decide) (fun i (v : Vector Int 8) => v = rndV p.toList h i) (fun k v i => p_sha_Compress_L2 N p k v i) (fun k v i hi hv => by
    refine ⟨_, rfl, ?_⟩
    subst hv
    rw [p_sha_Compress_L2, dt (show (i : Int) < 64 by omega), cond_true]
    generalize hs : rndV p.toList h i = s
    have r0 : inRO 0 8 = some () := rfl
    have r1 : inRO 1 8 = some () := rfl
    have r2 : inRO 2 8 = some () := rfl
    have r3 : inRO 3 8 = some () := rfl
    have r4 : inRO 4 8 = some () := rfl
    have r5 : inRO 5 8 = some () := rfl
    have r6 : inRO 6 8 = some () := rfl
    have r7 : inRO 7 8 = some () := rfl
    have g0 : s.toList[((0 : Int).toNat)]? = some s[0] := vget s 0 (by decide)
    have g1 : s.toList[((1 : Int).toNat)]? = some s[1] := vget s 1 (by decide)
    have g2 : s.toList[((2 : Int).toNat)]? = some s[2] := vget s 2 (by decide)
    have g3 : s.toList[((3 : Int).toNat)]? = some s[3] := vget s 3 (by decide)
    have g4 : s.toList[((4 : Int).toNat)]? = some s[4] := vget s 4 (by decide)
    have g5 : s.toList[((5 : Int).toNat)]? = some s[5] := vget s 5 (by decide)
    have g6 : s.toList[((6 : Int).toNat)]? = some s[6] := vget s 6 (by decide)
    have g7 : s.toList[((7 : Int).toNat)]? = some s[7] := vget s 7 (by decide)
    have q6 : ∀ x, p_sha_rot N x 6 = some (rotV x 6) := fun x => rotP N x 6 (by decide) (by decide)
    have q11 : ∀ x, p_sha_rot N x 11 = some (rotV x 11) := fun x => rotP N x 11 (by decide) (by decide)
    have q25 : ∀ x, p_sha_rot N x 25 = some (rotV x 25) := fun x => rotP N x 25 (by decide) (by decide)
    have q2 : ∀ x, p_sha_rot N x 2 = some (rotV x 2) := fun x => rotP N x 2 (by decide) (by decide)
    have q13 : ∀ x, p_sha_rot N x 13 = some (rotV x 13) := fun x => rotP N x 13 (by decide) (by decide)
    have q22 : ∀ x, p_sha_rot N x 22 = some (rotV x 22) := fun x => rotP N x 22 (by decide) (by decide)
    have ri : inRO (i : Int) 64 = some () := inRO_ok (by omega) (by omega)
    have gk : cst_p_sha_Compress_058597.toList[i]? = some (kV i) := get_getD (by simp; omega)
    have gp : p.toList[i]? = some (p.toList.getD i 0) := get_getD (by simp; omega)
    rw [r0, r4, r7, g0, g4, g7]
    simp only [Option.bind_some, q6, q11, q25, q2, q13, q22, letO_e, r0, r1, r2, r3, r4, r5, r6, r7, g0, g1, g2, g3, g4, g5, g6, g7, ri, Int.toNat_natCast, gk, gp]
    rw [rndV, hs]
    rfl) (fun k v => by rw [p_sha_Compress_L2, df (by omega), cond_false]) N 0 h rfl (by omega) (by omega)
  rw [← h1]; exact h2
/-! ### the end of a block -/
def addV (s h : Vector Int 8) : Nat → Int := fun i => U32 (s.toList.getD i 0 + h.toList.getD i 0)
def endV (s h : Vector Int 8) : Vector Int 8 := #v[addV s h 0, addV s h 1, addV s h 2, addV s h 3, addV s h 4, addV s h 5, addV s h 6, addV s h 7]
theorem vext8 {a : Vector Int 8} {f : Nat → Int} (h : a.toList = (List.range 8).map f) : a = #v[f 0, f 1, f 2, f 3, f 4, f 5, f 6, f 7] := by
  have e : ∀ i (hi : i < 8), a[i] = f i := by
    intro i hi
    have h1 := vget a i hi
    rw [h, List.getElem?_map, List.getElem?_range hi] at h1
    simpa using h1.symm
  rw [vec8 a, e 0 (by decide), e 1 (by decide), e 2 (by decide), e 3 (by decide), e 4 (by decide), e 5 (by decide), e 6 (by decide), e 7 (by decide)]
theorem endLoop (h : Vector Int 8) (F : Nat → Vector Int 8 → Int → Option (Vector Int 8)) (hF : ∀ k v i, F (k + 1) v i = cond (decide (i < 8)) (Option.bind (inRO i 8) fun _ => Option.bind (v.toList[i.toNat]?) fun e => Option.bind (idx h.toList i) fun e' => Option.bind (inRO i 8) fun _ => Option.bind (v.toList[i.toNat]?) fun _ => F k (v.setIfInBounds i.toNat (U32 (e + e'))) (I64 (i + 1))) (some v))
    (N : Nat) (s : Vector Int 8) (hN : 8 < N) : F N s 0 = some (endV s h) := by
  obtain ⟨v, h1, h2⟩ := loopI 8 (by decide) (fun i (v : Vector Int 8) => v.toList = (List.range i).map (addV s h) ++ s.toList.drop i) (fun k v i => F k v i) (fun k v i hi hv => by
    refine ⟨v.setIfInBounds i (addV s h i), ?_, ?_⟩
    · have e : (v.setIfInBounds i (addV s h i)).toList = v.toList.set i (addV s h i) := by simp
      rw [e, hv, List.set_append_right _ _ (by simp), List.length_map, List.length_range, Nat.sub_self, List.range_succ, List.map_append, List.append_assoc]
      congr 1
      rw [List.drop_eq_getElem_cons (by simp; omega)]
      rfl
    · have hl := vget v i hi
      have he : v[i] = s.toList.getD i 0 := by
        have := hl
        rw [hv, List.getElem?_append_right (by simp), List.length_map, List.length_range, Nat.sub_self, List.getElem?_drop, Nat.add_zero, get_getD (by simp; omega)] at this
        exact (Option.some.inj this).symm
      rw [hF, dt (show (i : Int) < 8 by omega), cond_true, inRO_ok (by omega) (by omega), Option.bind_some, Int.toNat_natCast, hl, Option.bind_some, idx_D (by simp; omega), Option.bind_some, Option.bind_some, Option.bind_some, he]
      rfl) (fun k v => by rw [hF, df (by omega), cond_false]) N 0 s (by simp) (by omega) (by omega)
  have e : v.toList = (List.range 8).map (addV s h) := by rw [h1, List.drop_of_length_le (by simp)]; simp
  rw [vext8 e] at h2
  exact h2
def cmpV (h : Vector Int 8) (b : Vector Int 64) : Vector Int 8 := endV (rndV (wList b 64) h 64) h
theorem cmpP (N : Nat) (hN : 64 < N) (h : Vector Int 8) (b : Vector Int 64) (hb : byteBlock b) : p_sha_Compress N h b = some (cmpV h b) := by
  unfold p_sha_Compress
  obtain ⟨v, h1, h2⟩ := cmpL1 N b hb hN
  rw [h1, Option.bind_some, cmpL2 N v h hN, Option.bind_some, h2, endLoop h (fun k v i => p_sha_Compress_L3 N h k v i) (fun k v i => by rw [p_sha_Compress_L3]) N _ (by omega), Option.bind_some]
  rfl
theorem byL4 (N K : Nat) (s : Vector Int 8) : p_umbraref09_By_L4 N (K + 8) s 7 = some #v[s[0], s[0], s[1], s[2], s[3], s[4], s[5], s[6]] := by
  conv => lhs; rw [vec8 s]
  generalize s[0] = a0
  generalize s[1] = a1
  generalize s[2] = a2
  generalize s[3] = a3
  generalize s[4] = a4
  generalize s[5] = a5
  generalize s[6] = a6
  generalize s[7] = a7
  kernel_rfl
theorem tl4 (a0 a1 a2 a3 a4 a5 a6 a7 : Int) : (#v[a0, a1, a2, a3, a4, a5, a6, a7] : Vector Int 8).toList[((4 : Int).toNat)]? = some a4 := rfl
theorem tl0 (a0 a1 a2 a3 a4 a5 a6 a7 x : Int) : ((#v[a0, a1, a2, a3, a4, a5, a6, a7] : Vector Int 8).setIfInBounds ((4 : Int).toNat) x).toList[((0 : Int).toNat)]? = some a0 := rfl
theorem tls (a0 a1 a2 a3 a4 a5 a6 a7 x y : Int) : ((#v[a0, a1, a2, a3, a4, a5, a6, a7] : Vector Int 8).setIfInBounds ((4 : Int).toNat) x).setIfInBounds ((0 : Int).toNat) y = #v[y, a1, a2, a3, x, a5, a6, a7] := rfl
theorem kV_ref : cst_p_umbraref09_Compress_058597 = cst_p_sha_Compress_058597 := rfl
theorem byL3 (N : Nat) (w : List Int) (hw : w.length = 64) (h : Vector Int 8) (hN : 64 < N) : p_umbraref09_By_L3 N cst_p_umbraref09_Compress_058597 w N h 0 = some (rndV w h 64) := by
  rw [kV_ref]
  obtain ⟨M, rfl⟩ : ∃ M, N = M + 8 := ⟨N - 8, by omega⟩
  generalize hNN : M + 8 = N at *
  obtain ⟨v, h1, h2⟩ := loopI 64 (by decide) (fun i (v : Vector Int 8) => v = rndV w h i) (fun k v i => p_umbraref09_By_L3 N cst_p_sha_Compress_058597 w k v i) (fun k v i hi hv => by
    refine ⟨_, rfl, ?_⟩
    subst hv
    rw [p_umbraref09_By_L3, dt (show (i : Int) < 64 by omega), cond_true]
    generalize hs : rndV w h i = s
    have r0 : inRO 0 8 = some () := rfl
    have r1 : inRO 1 8 = some () := rfl
    have r2 : inRO 2 8 = some () := rfl
    have r4 : inRO 4 8 = some () := rfl
    have r5 : inRO 5 8 = some () := rfl
    have r6 : inRO 6 8 = some () := rfl
    have r7 : inRO 7 8 = some () := rfl
    have g0 : s.toList[((0 : Int).toNat)]? = some s[0] := vget s 0 (by decide)
    have g1 : s.toList[((1 : Int).toNat)]? = some s[1] := vget s 1 (by decide)
    have g2 : s.toList[((2 : Int).toNat)]? = some s[2] := vget s 2 (by decide)
    have g4 : s.toList[((4 : Int).toNat)]? = some s[4] := vget s 4 (by decide)
    have g5 : s.toList[((5 : Int).toNat)]? = some s[5] := vget s 5 (by decide)
    have g6 : s.toList[((6 : Int).toNat)]? = some s[6] := vget s 6 (by decide)
    have g7 : s.toList[((7 : Int).toNat)]? = some s[7] := vget s 7 (by decide)
    have q6 : ∀ x, p_umbraref09_rot N x 6 = some (rotV x 6) := fun x => rotR N x 6 (by decide) (by decide)
    have q11 : ∀ x, p_umbraref09_rot N x 11 = some (rotV x 11) := fun x => rotR N x 11 (by decide) (by decide)
    have q25 : ∀ x, p_umbraref09_rot N x 25 = some (rotV x 25) := fun x => rotR N x 25 (by decide) (by decide)
    have q2 : ∀ x, p_umbraref09_rot N x 2 = some (rotV x 2) := fun x => rotR N x 2 (by decide) (by decide)
    have q13 : ∀ x, p_umbraref09_rot N x 13 = some (rotV x 13) := fun x => rotR N x 13 (by decide) (by decide)
    have q22 : ∀ x, p_umbraref09_rot N x 22 = some (rotV x 22) := fun x => rotR N x 22 (by decide) (by decide)
    have gk : idx cst_p_sha_Compress_058597.toList (i : Int) = some (kV i) := idx_D (by simp; omega)
    have gp : idx w (i : Int) = some (w.getD i 0) := idx_D (by omega)
    have b4 : p_umbraref09_By_L4 N N s 7 = some #v[s[0], s[0], s[1], s[2], s[3], s[4], s[5], s[6]] := by
      have := byL4 N M s
      rwa [hNN] at this
    simp only [r0, r4, r7, g0, g4, g7, Option.bind_some, q6, q11, q25, q2, q13, q22, letO_e, r1, r2, r5, r6, g1, g2, g5, g6, gk, gp, b4]
    simp only [tl4, tl0, tls, Option.bind_some]
    rw [rndV, hs]
    rfl) (fun k v => by rw [p_umbraref09_By_L3, df (by omega), cond_false]) N 0 h rfl (by omega) (by omega)
  rw [← h1]; exact h2
theorem cmpR (N : Nat) (hN : 64 < N) (h : Vector Int 8) (b : Vector Int 64) (hb : byteBlock b) : p_umbraref09_Compress N h b = some (cmpV h b) := by
  unfold p_umbraref09_Compress p_umbraref09_By
  rw [byL1 N b hb hN, Option.bind_some, byL2 N b hN, Option.bind_some, byL3 N _ (wList_len b 64) h hN, Option.bind_some, endLoop h (fun k v i => p_umbraref09_By_L5 N h k v i) (fun k v i => by rw [p_umbraref09_By_L5]) N _ (by omega), Option.bind_some, Option.bind_some]
  rfl
end Go.UK
