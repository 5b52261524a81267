/- A part of the proof: what the functions of the program compute. -/
import Derived.Test.YtljnaeghnleipaaR6
namespace Go.UK
open Go Go.Proofs
set_option maxRecDepth 20000
set_option maxHeartbeats 1000000
set_option linter.all false
def capV (k : Int) : Int := if k = 1 then 2048 else if k = 2 then 1024 else if k = 3 then 64 else if k = 4 then 64 else 0
theorem capP (N : Nat) (k : Int) : p_manifest_Cap N k = some (capV k) := by
 unfold p_manifest_Cap capV
 rw [letO_e]
 by_cases h : k < 0 ∨ 5 ≤ k
 ·rw [show cond (decide (k < 0)) true (decide (k ≥ 5)) = true by rcases h with h | h; rw [dt h]; rfl; rw [df (show ¬ k < 0 by omega), dt (show k ≥ 5 by omega)]; rfl, cond_true]
  rw [if_neg (by omega), if_neg (by omega), if_neg (by omega), if_neg (by omega)]
 ·rw [df (show ¬ k < 0 by omega), df (show ¬ k ≥ 5 by omega), cond_false, cond_false, inRO_ok (by omega) (by omega), Option.bind_some]
  have : k = 0 ∨ k = 1 ∨ k = 2 ∨ k = 3 ∨ k = 4 := by omega
  rcases this with rfl | rfl | rfl | rfl | rfl <;> rfl
def chunksV (s : Int) : Int := if s < 1 then 0 else (s - 1) / 256 + 1
theorem chunksP (N : Nat) {s : Int} (h : in64 s) : p_manifest_Chunks N s = some (chunksV s) := by
 unfold p_manifest_Chunks chunksV
 obtain ⟨h0, h1⟩ := h
 by_cases hs : s < 1
 ·rw [dt hs, cond_true, if_pos hs]
 ·have e : Int.tdiv (s - 1) 256 = (s - 1) / 256 := Int.tdiv_eq_ediv_of_nonneg (by omega)
  rw [df hs, cond_false, if_neg hs, I64_id (x := s - 1) (by omega) (by omega), e, I64_id (x := (s - 1) / 256) (by omega) (by omega), letO_e, I64_id (by omega) (by omega)]
def mchkV (m : S_api_Manifest) : Int := if capV m.gKind = 0 then 12 else if (m.gMasks.toList.any fun e => decide (e > 15)) = true then 5 else if m.gFrom > m.gTo ∨ m.gSize < 1 then 5 else if m.gSize > capV m.gKind then 9 else if m.gChunks ≠ chunksV m.gSize then 5 else 0
theorem mchkP (N : Nat) (hN : 20 < N) (m : S_api_Manifest) (hs : in64 m.gSize) : p_manifest_Check N m = some (mchkV m) := by
 unfold p_manifest_Check mchkV
 rw [capP, Option.bind_some]
 by_cases h0 : capV m.gKind = 0
 ·rw [if_pos h0, h0]; rfl
 ·rw [if_neg h0, show (capV m.gKind == 0) = false by simpa using h0, cond_false]
  have hl : p_manifest_Check_L1 N m N 0 = some (cond (m.gMasks.toList.any fun e => decide (e > 15)) (Sum.inr 5) (Sum.inl ())) := by
   refine loopAny0 m.gMasks.toList (fun e => decide (e > 15)) (5 : Int) (p_manifest_Check_L1 N m) (by simp) (fun k i h => ?_) (fun k => ?_) (by simp; omega)
   ·have h8 : i < 8 := by simpa using h
    rw [p_manifest_Check_L1, dt (by omega), cond_true, idx_at h, Option.bind_some]
   ·rw [p_manifest_Check_L1, df (by simp), cond_false]
  rw [hl, Option.bind_some]
  cases ha : (m.gMasks.toList.any fun e => decide (e > 15)) with
  | true => rw [if_pos rfl, cond_true]; rfl
  | false =>
   rw [if_neg (by decide), cond_false]
   show (letO (decide (m.gFrom > m.gTo)) fun x5 => _) = _
   rw [letO_e, letO_e]
   by_cases h1 : m.gFrom > m.gTo ∨ m.gSize < 1
   ·rw [if_pos h1]
    rw [show cond (decide (m.gFrom > m.gTo)) true (decide (m.gSize < 1)) = true by rcases h1 with h | h; rw [dt h]; rfl; rw [dt h]; cases decide (m.gFrom > m.gTo) <;> rfl, letO_e, cond_true]
   ·rw [if_neg h1, df (show ¬ m.gFrom > m.gTo by omega), df (show ¬ m.gSize < 1 by omega), cond_false, letO_e, cond_false]
    by_cases h2 : m.gSize > capV m.gKind
    ·rw [dt h2, cond_true, if_pos h2]
    ·rw [df h2, cond_false, if_neg h2, chunksP N hs, Option.bind_some]
     by_cases h3 : m.gChunks = chunksV m.gSize
     ·rw [if_neg (by simpa using h3), show (m.gChunks != chunksV m.gSize) = false by simpa using h3, cond_false]
     ·rw [if_pos h3, show (m.gChunks != chunksV m.gSize) = true by simpa using h3, cond_true]
structure ManR (m : S_api_Manifest) : Prop where
 id : isU m.gId
 kind : 0 ≤ m.gKind ∧ m.gKind < 256
 label : isW m.gLabel
 masks : vbytes m.gMasks
 fr : isW m.gFrom
 to : isW m.gTo
 size : 0 ≤ m.gSize ∧ m.gSize < 4294967296
 chunks : 0 ≤ m.gChunks ∧ m.gChunks < 65536
structure ManT (m : S_api_Manifest) : Prop where
 id : isU m.gId
 kind : in64 m.gKind
 label : isW m.gLabel
 masks : vbytes m.gMasks
 fr : isW m.gFrom
 to : isW m.gTo
 size : in64 m.gSize
 chunks : in64 m.gChunks
theorem capV_ne {k : Int} (h : capV k ≠ 0) : 1 ≤ k ∧ k ≤ 4 ∧ capV k ≤ 2048 ∧ 64 ≤ capV k := by
 unfold capV at *
 split at h
 ·rename_i e; subst e; exact ⟨by decide, by decide, by decide, by decide⟩
 ·split at h
  ·rename_i e; subst e; exact ⟨by decide, by decide, by decide, by decide⟩
  ·split at h
   ·rename_i e; subst e; exact ⟨by decide, by decide, by decide, by decide⟩
   ·split at h
    ·rename_i e; subst e; exact ⟨by decide, by decide, by decide, by decide⟩
    ·exact absurd rfl h
theorem mchk0 {m : S_api_Manifest} (h : mchkV m = 0) : capV m.gKind ≠ 0 ∧ 1 ≤ m.gSize ∧ m.gSize ≤ capV m.gKind ∧ m.gChunks = chunksV m.gSize := by
 unfold mchkV at h
 split at h
 ·cases h
 ·rename_i h0
  split at h
  ·cases h
  ·split at h
   ·cases h
   ·split at h
    ·cases h
    ·split at h
     ·cases h
     ·exact ⟨h0, by omega, by omega, by omega⟩
theorem ManT.r {m : S_api_Manifest} (t : ManT m) (h : mchkV m = 0) : ManR m := by
 obtain ⟨h0, h1, h2, h3⟩ := mchk0 h
 obtain ⟨k1, k2, k3, _⟩ := capV_ne h0
 refine ⟨t.id, ⟨by omega, by omega⟩, t.label, t.masks, t.fr, t.to, ⟨by omega, by omega⟩, ?_⟩
 rw [h3]
 unfold chunksV
 rw [if_neg (by omega)]
 omega
def manB (m : S_api_Manifest) : List Int := leB 8 m.gId ++ (leB 1 m.gKind ++ (leB 4 m.gLabel ++ (m.gMasks.toList ++ (leB 4 m.gFrom ++ (leB 4 m.gTo ++ (leB 4 m.gSize ++ leB 2 m.gChunks))))))
theorem manB_len (m : S_api_Manifest) : (manB m).length = 35 := by unfold manB; simp [leB_len]
theorem manB_bytes {m : S_api_Manifest} (h : vbytes m.gMasks) : bytesL (manB m) := (leB_bytes _ _).app ((leB_bytes _ _).app ((leB_bytes _ _).app (h.app ((leB_bytes _ _).app ((leB_bytes _ _).app ((leB_bytes _ _).app (leB_bytes _ _)))))))
theorem put1 (N : Nat) (hN : 20 < N) (b : List Int) (w : Nat) (hw0 : 1 ≤ w) (hw : w ≤ 8) (x : Int) (hx : 0 ≤ x) (hx2 : x < p256 w) (hb : b.length ≤ 1000000) : p_codec_Put N b (w : Int) [x] = some (b ++ leB w x, 0) := by
 have h8 := p256_le hw
 rw [putP N b w hw0 hw [x] (by intro y hy; simp at hy; subst hy; exact ⟨hx, by omega⟩) (by omega) (by simp) (by omega) (by simp; omega)]
 unfold putV
 have : ([x].any (big w)) = false := by simp [big]; omega
 rw [this, cond_false]
 simp
theorem put3 (N : Nat) (hN : 20 < N) (b : List Int) (w : Nat) (hw0 : 1 ≤ w) (hw : w ≤ 8) (x y z : Int) (hx : 0 ≤ x ∧ x < p256 w) (hy : 0 ≤ y ∧ y < p256 w) (hz : 0 ≤ z ∧ z < p256 w) (hb : b.length ≤ 1000000) : p_codec_Put N b (w : Int) [x, y, z] = some (b ++ (leB w x ++ (leB w y ++ leB w z)), 0) := by
 have h8 := p256_le hw
 rw [putP N b w hw0 hw [x, y, z] (by intro q hq; simp at hq; rcases hq with rfl | rfl | rfl <;> omega) (by omega) (by simp) (by omega) (by simp; omega)]
 unfold putV
 have : ([x, y, z].any (big w)) = false := by simp [big]; omega
 rw [this, cond_false]
 simp
theorem put2 (N : Nat) (hN : 20 < N) (b : List Int) (w : Nat) (hw0 : 1 ≤ w) (hw : w ≤ 8) (x y : Int) (hx : 0 ≤ x ∧ x < p256 w) (hy : 0 ≤ y ∧ y < p256 w) (hb : b.length ≤ 1000000) : p_codec_Put N b (w : Int) [x, y] = some (b ++ (leB w x ++ leB w y), 0) := by
 have h8 := p256_le hw
 rw [putP N b w hw0 hw [x, y] (by intro q hq; simp at hq; rcases hq with rfl | rfl <;> omega) (by omega) (by simp) (by omega) (by simp; omega)]
 unfold putV
 have : ([x, y].any (big w)) = false := by simp [big]; omega
 rw [this, cond_false]
 simp
theorem mencP (N : Nat) (hN : 20 < N) (m : S_api_Manifest) (t : ManT m) : p_manifest_Encode N m = some (if mchkV m = 0 then (manB m, 0) else ([], mchkV m)) := by
 unfold p_manifest_Encode
 rw [mchkP N hN m t.size, Option.bind_some]
 by_cases h : mchkV m = 0
 ·have r := t.r h
  rw [if_pos h, h, show ((0 : Int) != 0) = false from rfl, cond_false]
  have k1 := r.kind
  have k2 := r.size
  have k3 := r.chunks
  have k4 := r.label
  have k5 := r.fr
  have k6 := r.to
  have e1 := put1 N hN [] 8 (by decide) (by decide) m.gId r.id.1 r.id.2 (by simp)
  rw [show p_codec_Put N [] 8 [m.gId] = _ from e1, Option.bind_some, U64_id (x := m.gKind) (by omega) (by omega), U64_id (x := m.gLabel) k4.1 (by have := k4.2; omega), U64_id (x := m.gFrom) k5.1 (by have := k5.2; omega), U64_id (x := m.gTo) k6.1 (by have := k6.2; omega), U64_id (x := m.gSize) (by omega) (by omega), U64_id (x := m.gChunks) (by omega) (by omega)]
  have e2 := put1 N hN ([] ++ leB 8 m.gId) 1 (by decide) (by decide) m.gKind k1.1 k1.2 (by simp [leB_len])
  rw [show p_codec_Put N ([] ++ leB 8 m.gId) 1 [m.gKind] = _ from e2, Option.bind_some]
  have e3 := put1 N hN ([] ++ leB 8 m.gId ++ leB 1 m.gKind) 4 (by decide) (by decide) m.gLabel k4.1 k4.2 (by simp [leB_len])
  rw [show p_codec_Put N ([] ++ leB 8 m.gId ++ leB 1 m.gKind) 4 [m.gLabel] = _ from e3, Option.bind_some]
  rw [show slcO m.gMasks.toList 0 8 = some m.gMasks.toList from slcV (m := 8) _, Option.bind_some, appO1 (by simp [leB_len]) (by simp), Option.bind_some]
  have e4 := put3 N hN ([] ++ leB 8 m.gId ++ leB 1 m.gKind ++ leB 4 m.gLabel ++ m.gMasks.toList) 4 (by decide) (by decide) m.gFrom m.gTo m.gSize ⟨k5.1, k5.2⟩ ⟨k6.1, k6.2⟩ k2 (by simp [leB_len])
  rw [show p_codec_Put N ([] ++ leB 8 m.gId ++ leB 1 m.gKind ++ leB 4 m.gLabel ++ m.gMasks.toList) 4 [m.gFrom, m.gTo, m.gSize] = _ from e4, Option.bind_some]
  have e5 := put1 N hN ([] ++ leB 8 m.gId ++ leB 1 m.gKind ++ leB 4 m.gLabel ++ m.gMasks.toList ++ (leB 4 m.gFrom ++ (leB 4 m.gTo ++ leB 4 m.gSize))) 2 (by decide) (by decide) m.gChunks k3.1 k3.2 (by simp [leB_len])
  rw [show p_codec_Put N ([] ++ leB 8 m.gId ++ leB 1 m.gKind ++ leB 4 m.gLabel ++ m.gMasks.toList ++ (leB 4 m.gFrom ++ (leB 4 m.gTo ++ leB 4 m.gSize))) 2 [m.gChunks] = _ from e5, Option.bind_some]
  congr 2
  unfold manB
  simp [List.append_assoc]
 ·rw [if_neg h, show (mchkV m != 0) = true by simpa using h, cond_true]
theorem leB_inj {w : Nat} (hw : w ≤ 8) {x y : Int} (hx : 0 ≤ x ∧ x < p256 w) (hy : 0 ≤ y ∧ y < p256 w) (h : leB w x = leB w y) : x = y := by
 have := congrArg numV h
 rw [numLe x w hw, numLe y w hw, Int.emod_eq_of_lt hx.1 hx.2, Int.emod_eq_of_lt hy.1 hy.2] at this
 exact this
theorem manB_inj {m m' : S_api_Manifest} (r : ManR m) (r' : ManR m') (h : manB m = manB m') : m = m' := by
 unfold manB at h
 obtain ⟨h1, h⟩ := List.append_inj h (by simp [leB_len])
 obtain ⟨h2, h⟩ := List.append_inj h (by simp [leB_len])
 obtain ⟨h3, h⟩ := List.append_inj h (by simp [leB_len])
 obtain ⟨h4, h⟩ := List.append_inj h (by simp)
 obtain ⟨h5, h⟩ := List.append_inj h (by simp [leB_len])
 obtain ⟨h6, h⟩ := List.append_inj h (by simp [leB_len])
 obtain ⟨h7, h8⟩ := List.append_inj h (by simp [leB_len])
 have q1 := leB_inj (w := 8) (by decide) r.id r'.id h1
 have q2 := leB_inj (w := 1) (by decide) r.kind r'.kind h2
 have q3 := leB_inj (w := 4) (by decide) r.label r'.label h3
 have q4 := Vector.toList_inj.1 h4
 have q5 := leB_inj (w := 4) (by decide) r.fr r'.fr h5
 have q6 := leB_inj (w := 4) (by decide) r.to r'.to h6
 have q7 := leB_inj (w := 4) (by decide) r.size r'.size h7
 have q8 := leB_inj (w := 2) (by decide) r.chunks r'.chunks h8
 cases m; cases m'
 dsimp only at *
 subst q1 q2 q3 q4 q5 q6 q7 q8
 rfl
theorem cpVm {m : Nat} (d : List Int) (h : d.length = m) : ∃ v, cpV (Vector.replicate m (0 : Int)) d 0 m = some v ∧ v.toList = d := by
 unfold cpV
 rw [dif_pos (by omega)]
 refine ⟨_, rfl, ?_⟩
 subst h
 simp [cpy]
def zM : S_api_Manifest := S_api_Manifest.mk 0 0 0 (Vector.replicate 8 0) 0 0 0 0
theorem mdecT (N : Nat) (hN : 20 < N) (b : List Int) (hb : bytesL b) (h35 : b.length = 35) : T (p_manifest_Decode N b) (fun r => ∃ m, ManR m ∧ manB m = b ∧ r = if mchkV m = 0 then (m, 0) else (zM, mchkV m)) := by
 unfold p_manifest_Decode
 rw [newP N b (by omega), Option.bind_some]
 refine T.bind (numT N hN b 0 8 (by decide) (by decide) hb) fun r2 h2 => ?_
 obtain ⟨b2, e2, v2⟩ := r2
 obtain ⟨p2, l2, q2, q2', ⟨rfl, _, c2⟩ | ⟨_, _, _, c2, _⟩⟩ := h2
 rotate_left
 ·have := (c2 rfl).2; omega
 dsimp only at p2 l2 q2 q2' c2 ⊢
 have hl2 := congrArg List.length c2
 rw [List.length_append, leB_len] at hl2
 unfold p_manifest_decoder_int_srzd
 refine T.bind (P := fun r => bytesL r.1 ∧ r.2.1 = 0 ∧ 0 ≤ r.2.2 ∧ r.2.2 < 256 ∧ b2 = leB 1 r.2.2 ++ r.1) (T.bind (numT N hN b2 0 1 (by decide) (by decide) p2) fun r h => T.ret ?_) fun r3 h3 => ?_
 ·obtain ⟨p, l, q, q', ⟨e, _, c⟩ | ⟨_, _, _, c, _⟩⟩ := h
  ·rw [show p256 1 = 256 from rfl] at q'
   have : I64 r.2.2 = r.2.2 := I64_id (by omega) (by omega)
   dsimp only
   rw [this]
   exact ⟨p, e, q, q', c⟩
  ·have := (c rfl).2; omega
 obtain ⟨b3, e3, v3⟩ := r3
 obtain ⟨p3, rfl, q3, q3', c3⟩ := h3
 dsimp only at p3 q3 q3' c3 ⊢
 have hl3 := congrArg List.length c3
 rw [List.length_append, leB_len] at hl3
 refine T.bind (numT N hN b3 0 4 (by decide) (by decide) p3) fun r4 h4 => ?_
 obtain ⟨b4, e4, v4⟩ := r4
 obtain ⟨p4, l4, q4, q4', ⟨rfl, _, c4⟩ | ⟨_, _, _, c4, _⟩⟩ := h4
 rotate_left
 ·have := (c4 rfl).2; omega
 dsimp only at p4 l4 q4 q4' c4 ⊢
 have hl4 := congrArg List.length c4
 rw [List.length_append, leB_len] at hl4
 refine T.bind (o := slcB 8 0 8) (P := fun _ => True) ⟨(), rfl, trivial⟩ fun _ _ => ?_
 refine T.bind (takeT N b4 0 8 p4) fun r6 h6 => ?_
 obtain ⟨b6, e6, v6⟩ := r6
 obtain ⟨p6, pv6, _, _, ⟨rfl, _, c6, l6⟩ | ⟨_, _, _, c6, _⟩⟩ := h6
 rotate_left
 ·have := (c6 rfl).2; omega
 dsimp only at p6 pv6 c6 l6 ⊢
 have hl6 := congrArg List.length c6
 rw [List.length_append, l6] at hl6
 obtain ⟨v7, e7, c7⟩ := cpVm v6 l6
 rw [e7, Option.bind_some]
 refine T.bind (numT N hN b6 0 4 (by decide) (by decide) p6) fun r8 h8 => ?_
 obtain ⟨b8, e8, v8⟩ := r8
 obtain ⟨p8, l8, q8, q8', ⟨rfl, _, c8⟩ | ⟨_, _, _, c8, _⟩⟩ := h8
 rotate_left
 ·have := (c8 rfl).2; omega
 dsimp only at p8 l8 q8 q8' c8 ⊢
 have hl8 := congrArg List.length c8
 rw [List.length_append, leB_len] at hl8
 refine T.bind (numT N hN b8 0 4 (by decide) (by decide) p8) fun r9 h9 => ?_
 obtain ⟨b9, e9, v9⟩ := r9
 obtain ⟨p9, l9, q9, q9', ⟨rfl, _, c9⟩ | ⟨_, _, _, c9, _⟩⟩ := h9
 rotate_left
 ·have := (c9 rfl).2; omega
 dsimp only at p9 l9 q9 q9' c9 ⊢
 have hl9 := congrArg List.length c9
 rw [List.length_append, leB_len] at hl9
 refine T.bind (P := fun r => bytesL r.1 ∧ r.2.1 = 0 ∧ 0 ≤ r.2.2 ∧ r.2.2 < 4294967296 ∧ b9 = leB 4 r.2.2 ++ r.1) (T.bind (numT N hN b9 0 4 (by decide) (by decide) p9) fun r h => T.ret ?_) fun r10 h10 => ?_
 ·obtain ⟨p, l, q, q', ⟨e, _, c⟩ | ⟨_, _, _, c, _⟩⟩ := h
  ·rw [show p256 4 = 4294967296 from rfl] at q'
   have : I64 r.2.2 = r.2.2 := I64_id (by omega) (by omega)
   dsimp only
   rw [this]
   exact ⟨p, e, q, q', c⟩
  ·have := (c rfl).2; omega
 obtain ⟨b10, e10, v10⟩ := r10
 obtain ⟨p10, rfl, q10, q10', c10⟩ := h10
 dsimp only at p10 q10 q10' c10 ⊢
 have hl10 := congrArg List.length c10
 rw [List.length_append, leB_len] at hl10
 refine T.bind (P := fun r => bytesL r.1 ∧ r.2.1 = 0 ∧ 0 ≤ r.2.2 ∧ r.2.2 < 65536 ∧ b10 = leB 2 r.2.2 ++ r.1) (T.bind (numT N hN b10 0 2 (by decide) (by decide) p10) fun r h => T.ret ?_) fun r11 h11 => ?_
 ·obtain ⟨p, l, q, q', ⟨e, _, c⟩ | ⟨_, _, _, c, _⟩⟩ := h
  ·rw [show p256 2 = 65536 from rfl] at q'
   have : I64 r.2.2 = r.2.2 := I64_id (by omega) (by omega)
   dsimp only
   rw [this]
   exact ⟨p, e, q, q', c⟩
  ·have := (c rfl).2; omega
 obtain ⟨b11, e11, v11⟩ := r11
 obtain ⟨p11, rfl, q11, q11', c11⟩ := h11
 dsimp only at p11 q11 q11' c11 ⊢
 have hl11 := congrArg List.length c11
 rw [List.length_append, leB_len] at hl11
 have h0 : b11 = [] := List.eq_nil_of_length_eq_zero (by omega)
 subst h0
 rw [endE, Option.bind_some, show ((0 : Int) != 0) = false from rfl, cond_false, show decide (0 < ([] : List Int).length) = false from rfl, cond_false, show ((0 : Int) != 0) = false from rfl, cond_false]
 rw [show p256 8 = 18446744073709551616 from rfl] at q2'
 rw [show p256 4 = 4294967296 from rfl] at q4' q8' q9'
 have u4 := U32_id q4 q4'
 have u8 := U32_id q8 q8'
 have u9 := U32_id q9 q9'
 rw [u4, u8, u9]
 have R : ManR (S_api_Manifest.mk v2 v3 v4 v7 v8 v9 v10 v11) := ⟨⟨q2, q2'⟩, ⟨q3, q3'⟩, ⟨q4, q4'⟩, by unfold vbytes; rw [show (S_api_Manifest.mk v2 v3 v4 v7 v8 v9 v10 v11).gMasks = v7 from rfl, c7]; exact pv6, ⟨q8, q8'⟩, ⟨q9, q9'⟩, ⟨q10, q10'⟩, ⟨q11, q11'⟩⟩
 rw [mchkP N hN _ ⟨by dsimp only; omega, by dsimp only; omega⟩, Option.bind_some]
 have hB : manB (S_api_Manifest.mk v2 v3 v4 v7 v8 v9 v10 v11) = b := by
  unfold manB
  dsimp only
  rw [c2, c3, c4, c6, c8, c9, c10, c11, c7, List.append_nil]
 by_cases hc : mchkV (S_api_Manifest.mk v2 v3 v4 v7 v8 v9 v10 v11) = 0
 ·rw [hc, show ((0 : Int) != 0) = false from rfl, cond_false]
  exact T.ret ⟨_, R, hB, by rw [if_pos hc]⟩
 ·rw [show (mchkV (S_api_Manifest.mk v2 v3 v4 v7 v8 v9 v10 v11) != 0) = true by simpa using hc, cond_true]
  exact T.ret ⟨_, R, hB, by rw [if_neg hc]; rfl⟩
end Go.UK

