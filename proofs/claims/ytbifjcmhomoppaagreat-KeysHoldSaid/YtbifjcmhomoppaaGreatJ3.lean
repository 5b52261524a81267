/- A part of the proof: what the functions of the program compute. -/
import Derived.Test.YtbifjcmhomoppaaGreatJ2
namespace Go.UK
open Go Go.Proofs
set_option maxRecDepth 20000
set_option maxHeartbeats 1000000
set_option linter.all false
theorem nonceT (N : Nat) (hN : 20 < N) (base : Vector Int 8) (i : Int) : T (p_bundle_Nonce N base i) (fun _ => True) := by
 unfold p_bundle_Nonce
 refine T.bind (o := slcB 12 0 12) (P := fun _ => True) ⟨(), rfl, trivial⟩ fun _ _ => T.bind (T.slc (by decide) (by decide) (by simp)) fun s2 _ => ?_
 refine T.bind (P := fun _ => True) ?_ fun v3 _ => ?_
 ·unfold cpV
  rw [dif_pos (by decide)]
  exact ⟨_, rfl, trivial⟩
 refine T.bind (T.loop0 (n := 4) (by decide) (fun _ _ => True) (F := p_bundle_Nonce_L1 N i) (fun k s j hj _ Q hk => ?_) (fun k s => by rw [p_bundle_Nonce_L1, df (by omega), cond_false]) (by omega) trivial) fun p1 _ => T.ret trivial
 rw [p_bundle_Nonce_L1, dt (by omega), cond_true, show (8 : Int) = ((8 : Nat) : Int) from rfl, i4 (by omega), ia (by omega), I64_s (by omega), shrO_ok .i64 (by omega), Option.bind_some]
 exact T.bind (T.inRO (by omega) (by omega)) fun _ _ => T.bind (T.vget (by omega)) fun _ _ => hk _ trivial
def nonV (N : Nat) (base : Vector Int 8) (i : Int) : Vector Int 12 := (p_bundle_Nonce N base i).getD (Vector.replicate 12 0)
theorem nonP (N : Nat) (hN : 20 < N) (base : Vector Int 8) (i : Int) : p_bundle_Nonce N base i = some (nonV N base i) := by
 obtain ⟨r, h, _⟩ := nonceT N hN base i
 unfold nonV
 rw [h]
 rfl
theorem noneP (N : Nat) (b : List Int) (e : Int) : p_codec_Reader_none_r N (S_codec_Reader.mk b e true) = some false := rfl
theorem takeOK (N : Nat) (b : List Int) (n : Nat) (h : n ≤ b.length) : p_codec_Reader_Take_rd N (n : Int) (S_codec_Reader.mk b 0 true) = some (b.drop n, 0, b.take n) := by
 unfold p_codec_Reader_Take_rd
 rw [noneP, Option.bind_some, cond_false, letO_e]
 dsimp only
 rw [show ((0 : Int) != 0) = false from rfl, cond_false, df (by omega), cond_false, letO_e, df (by omega), cond_false, slc3O_ok h, Option.bind_some, slcO_drop h, Option.bind_some]
theorem takeShort (N : Nat) (b : List Int) (n : Nat) (h : ¬ n ≤ b.length) : p_codec_Reader_Take_rd N (n : Int) (S_codec_Reader.mk b 0 true) = some (b, 4, []) := by
 unfold p_codec_Reader_Take_rd
 rw [noneP, Option.bind_some, cond_false, letO_e]
 dsimp only
 rw [show ((0 : Int) != 0) = false from rfl, cond_false, df (by omega), cond_false, letO_e, dt (by omega), cond_true]
theorem takeErr (N : Nat) (b : List Int) (n : Nat) {e : Int} (h : e ≠ 0) : p_codec_Reader_Take_rd N (n : Int) (S_codec_Reader.mk b e true) = some (b, e, []) := by
 unfold p_codec_Reader_Take_rd
 rw [noneP, Option.bind_some, cond_false, letO_e]
 dsimp only
 rw [show (e != 0) = true by simpa using h, cond_true]
theorem bytes_nil : bytesL [] := by intro x hx; cases hx
theorem takeT (N : Nat) (b : List Int) (e : Int) (n : Nat) (hb : bytesL b) : T (p_codec_Reader_Take_rd N (n : Int) (S_codec_Reader.mk b e true)) (fun r => bytesL r.1 ∧ bytesL r.2.2 ∧ r.2.2.length ≤ n ∧ r.1.length ≤ b.length ∧ ((r.2.1 = 0 ∧ e = 0 ∧ b = r.2.2 ++ r.1 ∧ r.2.2.length = n) ∨ (r.2.1 ≠ 0 ∧ r.2.2 = [] ∧ r.1 = b ∧ (e = 0 → r.2.1 = 4 ∧ b.length < n) ∧ (e ≠ 0 → r.2.1 = e)))) := by
 by_cases he : e = 0
 ·subst he
  by_cases h : n ≤ b.length
  ·refine T.of (takeOK N b n h) ⟨hb.drop _, hb.take _, by simp; omega, by simp, .inl ⟨rfl, rfl, (List.take_append_drop _ _).symm, by simp; omega⟩⟩
  ·exact T.of (takeShort N b n h) ⟨hb, bytes_nil, by simp, Nat.le_refl _, .inr ⟨(show (4 : Int) ≠ 0 by decide), rfl, rfl, fun _ => ⟨rfl, by omega⟩, fun h => absurd rfl h⟩⟩
 ·exact T.of (takeErr N b n he) ⟨hb, bytes_nil, by simp, Nat.le_refl _, .inr ⟨he, rfl, rfl, fun h => absurd h he, fun _ => rfl⟩⟩
theorem leB_num : ∀ (x : List Int), bytesL x → x.length ≤ 8 → leB x.length (numV x) = x := by
 intro x hx hl
 have hlen : ∀ i, i < x.length → (leB x.length (numV x))[i]? = x[i]? := by
  intro i hi
  unfold leB
  rw [List.getElem?_map, List.getElem?_range hi, Option.map_some, List.getElem?_eq_getElem hi, shr8 _ _ (by omega), U8_e]
  congr 1
  -- the i-th byte
  have key : ∀ (l : List Int), bytesL l → ∀ i (h : i < l.length), numV l / p256 i % 256 = l[i] := by
   intro l
   induction l with
   | nil => intro _ i h; simp at h
   | cons a l ih =>
    intro hl i h
    have ha := hl a (by simp)
    have e : numV (a :: l) = a + 256 * numV l := rfl
    cases i with
    | zero =>
     rw [e, show p256 0 = 1 from rfl]
     have := ha.1; have := ha.2
     simp only [List.getElem_cons_zero]
     omega
    | succ i =>
     rw [show p256 (i + 1) = 256 * p256 i by rw [p256_s, Int.mul_comm], ← Int.ediv_ediv_of_nonneg (by decide), e]
     have h1 : (a + 256 * numV l) / 256 = numV l := by have := ha.1; have := ha.2; omega
     rw [h1]
     simpa using ih (fun x hx => hl x (by simp [hx])) i (by simpa using h)
  exact key x hx i hi
 apply List.ext_getElem?
 intro i
 by_cases hi : i < x.length
 ·exact hlen i hi
 ·rw [List.getElem?_eq_none (by rw [leB_len]; omega), List.getElem?_eq_none (by omega)]
theorem numT (N : Nat) (hN : 20 < N) (b : List Int) (e : Int) (w : Nat) (hw0 : 1 ≤ w) (hw : w ≤ 8) (hb : bytesL b) : T (p_codec_Reader_Num_rd N (w : Int) (S_codec_Reader.mk b e true)) (fun r => bytesL r.1 ∧ r.1.length ≤ b.length ∧ 0 ≤ r.2.2 ∧ r.2.2 < p256 w ∧ ((r.2.1 = 0 ∧ e = 0 ∧ b = leB w r.2.2 ++ r.1) ∨ (r.2.1 ≠ 0 ∧ r.2.2 = 0 ∧ r.1 = b ∧ (e = 0 → r.2.1 = 4 ∧ b.length < w) ∧ (e ≠ 0 → r.2.1 = e)))) := by
 unfold p_codec_Reader_Num_rd
 rw [df (show ¬ (w : Int) < 1 by omega), df (show ¬ (w : Int) > 8 by omega), cond_false, letO_e, cond_false, Option.bind_some]
 refine T.bind (takeT N b e w hb) fun r3 h3 => ?_
 obtain ⟨h1, h2, h4, h4b, h5⟩ := h3
 have n1 := numL N r3.2.2 r3 rfl h2 (by omega) N 0 (by omega) (by omega)
 rw [List.take_zero] at n1
 rw [show p_codec_Reader_Num_rd_L1 N r3 N 0 0 = some (numV r3.2.2) from n1, Option.bind_some]
 have hlt := numV_lt _ h2
 refine T.ret ⟨h1, h4b, hlt.1, ?_, ?_⟩
 ·rcases h5 with ⟨_, _, _, h5⟩ | ⟨_, h5, _⟩
  ·dsimp only; rw [← h5]; exact hlt.2
  ·dsimp only; rw [h5]; exact p256_pos w
 ·rcases h5 with ⟨g1, g2, g3, g4⟩ | ⟨g1, g2, g3, g4, g5⟩
  ·refine .inl ⟨g1, g2, ?_⟩
   dsimp only
   rw [← g4, leB_num _ h2 (by omega)]
   exact g3
  ·exact .inr ⟨g1, by dsimp only; rw [g2]; rfl, g3, g4, g5⟩
theorem numOK (N : Nat) (hN : 20 < N) (w : Nat) (hw0 : 1 ≤ w) (hw : w ≤ 8) (v : Int) (rest : List Int) (hv : 0 ≤ v) (hv2 : v < p256 w) (hr : bytesL rest) : p_codec_Reader_Num_rd N (w : Int) (S_codec_Reader.mk (leB w v ++ rest) 0 true) = some (rest, 0, v) := by
 unfold p_codec_Reader_Num_rd
 rw [df (show ¬ (w : Int) < 1 by omega), df (show ¬ (w : Int) > 8 by omega), cond_false, letO_e, cond_false, Option.bind_some, takeOK N _ w (by rw [List.length_append, leB_len]; omega), Option.bind_some]
 have hl := leB_len w v
 have e1 : (leB w v ++ rest).take w = leB w v := List.take_left' hl
 have e2 : (leB w v ++ rest).drop w = rest := List.drop_left' hl
 have n1 := numL N (leB w v) (rest, 0, leB w v) rfl (leB_bytes w v) (by omega) N 0 (by omega) (by omega)
 rw [List.take_zero] at n1
 rw [e1, e2, show p_codec_Reader_Num_rd_L1 N (rest, 0, leB w v) N 0 0 = some (numV (leB w v)) from n1, Option.bind_some, numLe v w hw, Int.emod_eq_of_lt hv hv2]
theorem int2T (N : Nat) (hN : 20 < N) (b : List Int) (e : Int) (hb : bytesL b) : T (p_codec_Reader_Int_rd N 2 (S_codec_Reader.mk b e true)) (fun r => bytesL r.1 ∧ r.1.length ≤ b.length ∧ -32768 ≤ r.2.2 ∧ r.2.2 < 32768 ∧ ((r.2.1 = 0 ∧ e = 0 ∧ b = leB 2 (r.2.2 % 65536) ++ r.1) ∨ (r.2.1 ≠ 0 ∧ r.1 = b ∧ (e = 0 → r.2.1 = 4 ∧ b.length < 2) ∧ (e ≠ 0 → r.2.1 = e)))) := by
 unfold p_codec_Reader_Int_rd
 refine T.bind (numT N hN b e 2 (by decide) (by decide) hb) fun r h => ?_
 obtain ⟨h1, h1b, h2, h3, h4⟩ := h
 rw [show p256 2 = 65536 from rfl] at h3
 rw [show decide ((2 : Int) < 1) = false from rfl, show decide ((2 : Int) > 8) = false from rfl, cond_false, letO_e, cond_false, show I64 (64 - I64 (8 * 2)) = ((48 : Nat) : Int) by decide, letO_e, shlO_ok .i64 (by omega), Option.bind_some, letO_e, shrO_ok .i64 (by omega), Option.bind_some]
 have hI : I64 r.2.2 = r.2.2 := I64_id (by omega) (by omega)
 have hv : shr .i64 (shl .i64 (I64 r.2.2) ((48 : Nat) : Int)) ((48 : Nat) : Int) = if r.2.2 < 32768 then r.2.2 else r.2.2 - 65536 := by
  rw [hI, shr_e .i64 _ _ 48 rfl (by decide), shlI _ _ (by decide), I64_e, show (2 : Int) ^ 48 = 281474976710656 from rfl]
  split <;> omega
 rw [hv]
 refine T.ret ⟨h1, h1b, by dsimp only; split <;> omega, by dsimp only; split <;> omega, ?_⟩
 rcases h4 with ⟨g1, g2, g3⟩ | ⟨g1, g2, g3, g4, g5⟩
 ·refine .inl ⟨g1, g2, ?_⟩
  dsimp only
  have : (if r.2.2 < 32768 then r.2.2 else r.2.2 - 65536) % 65536 = r.2.2 := by split <;> omega
  rw [this]
  exact g3
 ·exact .inr ⟨g1, g3, g4, g5⟩
theorem endE (N : Nat) (b : List Int) (e : Int) : p_codec_Reader_End_r N (S_codec_Reader.mk b e true) = some (cond (e != 0) e (cond (decide (0 < b.length)) 5 0)) := by
 unfold p_codec_Reader_End_r p_codec_Reader_Err_r
 rw [noneP, Option.bind_some, cond_false, Option.bind_some]
 dsimp only
 cases e != 0 with
 | true => rfl
 | false =>
  rw [cond_false, cond_false, letO_e]
  by_cases h : 0 < b.length
  ·rw [dt (by omega), dt h]; rfl
  ·rw [df (by omega), df h]; rfl
theorem errE (N : Nat) (b : List Int) (e : Int) : p_codec_Reader_Err_r N (S_codec_Reader.mk b e true) = some e := rfl
theorem newP (N : Nat) (b : List Int) (h : b.length ≤ 100000000000000) : p_codec_New N b = some b := by
 unfold p_codec_New
 rw [clone1 N b h, Option.bind_some]
end Go.UK
namespace Go.UK
open Go Go.Proofs
set_option maxRecDepth 20000
set_option maxHeartbeats 1000000
set_option linter.all false
def capV (k : Int) : Int := if k = 1 then 2048 else if k = 2 then 1024 else if k = 3 then 64 else if k = 4 then 64 else 0
theorem capP (N : Nat) (k : Int) : p_manifest_Cap N k = some (capV k) := by
 unfold p_manifest_Cap capV
 rw [letO_e]
 by_cases h : k < 0 ∨ 5 ≤ k
 ·rw [show cond (decide (k < 0)) true (decide (k ≥ 5)) = true by rcases h with h | h; rw [dt h]; rfl; rw [df (show ¬ k < 0 by omega), dt (show k ≥ 5 by omega)]; rfl, cond_true]
  rw [if_neg (by omega), if_neg (by omega), if_neg (by omega), if_neg (by omega)]
 ·rw [df (show ¬ k < 0 by omega), df (show ¬ k ≥ 5 by omega), cond_false, cond_false, inRO_ok (by omega) (by omega), Option.bind_some]
  have : k = 0 ∨ k = 1 ∨ k = 2 ∨ k = 3 ∨ k = 4 := by omega
  rcases this with rfl | rfl | rfl | rfl | rfl <;> rfl
def chunksV (s : Int) : Int := if s < 1 then 0 else (s - 1) / 256 + 1
theorem chunksP (N : Nat) {s : Int} (h : in64 s) : p_manifest_Chunks N s = some (chunksV s) := by
 unfold p_manifest_Chunks chunksV
 obtain ⟨h0, h1⟩ := h
 by_cases hs : s < 1
 ·rw [dt hs, cond_true, if_pos hs]
 ·have e : Int.tdiv (s - 1) 256 = (s - 1) / 256 := Int.tdiv_eq_ediv_of_nonneg (by omega)
  rw [df hs, cond_false, if_neg hs, I64_id (x := s - 1) (by omega) (by omega), e, I64_id (x := (s - 1) / 256) (by omega) (by omega), letO_e, I64_id (by omega) (by omega)]
def mchkV (m : S_api_Manifest) : Int := if capV m.gKind = 0 then 12 else if (m.gMasks.toList.any fun e => decide (e > 15)) = true then 5 else if m.gFrom > m.gTo ∨ m.gSize < 1 then 5 else if m.gSize > capV m.gKind then 9 else if m.gChunks ≠ chunksV m.gSize then 5 else 0
theorem mchkP (N : Nat) (hN : 20 < N) (m : S_api_Manifest) (hs : in64 m.gSize) : p_manifest_Check N m = some (mchkV m) := by
 unfold p_manifest_Check mchkV
 rw [capP, Option.bind_some]
 by_cases h0 : capV m.gKind = 0
 ·rw [if_pos h0, h0]; rfl
 ·rw [if_neg h0, show (capV m.gKind == 0) = false by simpa using h0, cond_false]
  have hl : p_manifest_Check_L1 N m N 0 = some (cond (m.gMasks.toList.any fun e => decide (e > 15)) (Sum.inr 5) (Sum.inl ())) := by
   refine loopAny0 m.gMasks.toList (fun e => decide (e > 15)) (5 : Int) (p_manifest_Check_L1 N m) (by simp) (fun k i h => ?_) (fun k => ?_) (by simp; omega)
   ·have h8 : i < 8 := by simpa using h
    rw [p_manifest_Check_L1, dt (by omega), cond_true, idx_at h, Option.bind_some]
   ·rw [p_manifest_Check_L1, df (by simp), cond_false]
  rw [hl, Option.bind_some]
  cases ha : (m.gMasks.toList.any fun e => decide (e > 15)) with
  | true => rw [if_pos rfl, cond_true]; rfl
  | false =>
   rw [if_neg (by decide), cond_false]
   show (letO (decide (m.gFrom > m.gTo)) fun x5 => _) = _
   rw [letO_e, letO_e]
   by_cases h1 : m.gFrom > m.gTo ∨ m.gSize < 1
   ·rw [if_pos h1]
    rw [show cond (decide (m.gFrom > m.gTo)) true (decide (m.gSize < 1)) = true by rcases h1 with h | h; rw [dt h]; rfl; rw [dt h]; cases decide (m.gFrom > m.gTo) <;> rfl, letO_e, cond_true]
   ·rw [if_neg h1, df (show ¬ m.gFrom > m.gTo by omega), df (show ¬ m.gSize < 1 by omega), cond_false, letO_e, cond_false]
    by_cases h2 : m.gSize > capV m.gKind
    ·rw [dt h2, cond_true, if_pos h2]
    ·rw [df h2, cond_false, if_neg h2, chunksP N hs, Option.bind_some]
     by_cases h3 : m.gChunks = chunksV m.gSize
     ·rw [if_neg (by simpa using h3), show (m.gChunks != chunksV m.gSize) = false by simpa using h3, cond_false]
     ·rw [if_pos h3, show (m.gChunks != chunksV m.gSize) = true by simpa using h3, cond_true]
structure ManR (m : S_api_Manifest) : Prop where
 id : isU m.gId
 kind : 0 ≤ m.gKind ∧ m.gKind < 256
 label : isW m.gLabel
 masks : vbytes m.gMasks
 fr : isW m.gFrom
 to : isW m.gTo
 size : 0 ≤ m.gSize ∧ m.gSize < 4294967296
 chunks : 0 ≤ m.gChunks ∧ m.gChunks < 65536
structure ManT (m : S_api_Manifest) : Prop where
 id : isU m.gId
 kind : in64 m.gKind
 label : isW m.gLabel
 masks : vbytes m.gMasks
 fr : isW m.gFrom
 to : isW m.gTo
 size : in64 m.gSize
 chunks : in64 m.gChunks
theorem capV_ne {k : Int} (h : capV k ≠ 0) : 1 ≤ k ∧ k ≤ 4 ∧ capV k ≤ 2048 ∧ 64 ≤ capV k := by
 unfold capV at *
 split at h
 ·rename_i e; subst e; exact ⟨by decide, by decide, by decide, by decide⟩
 ·split at h
  ·rename_i e; subst e; exact ⟨by decide, by decide, by decide, by decide⟩
  ·split at h
   ·rename_i e; subst e; exact ⟨by decide, by decide, by decide, by decide⟩
   ·split at h
    ·rename_i e; subst e; exact ⟨by decide, by decide, by decide, by decide⟩
    ·exact absurd rfl h
theorem mchk0 {m : S_api_Manifest} (h : mchkV m = 0) : capV m.gKind ≠ 0 ∧ 1 ≤ m.gSize ∧ m.gSize ≤ capV m.gKind ∧ m.gChunks = chunksV m.gSize := by
 unfold mchkV at h
 split at h
 ·cases h
 ·rename_i h0
  split at h
  ·cases h
  ·split at h
   ·cases h
   ·split at h
    ·cases h
    ·split at h
     ·cases h
     ·exact ⟨h0, by omega, by omega, by omega⟩
theorem ManT.r {m : S_api_Manifest} (t : ManT m) (h : mchkV m = 0) : ManR m := by
 obtain ⟨h0, h1, h2, h3⟩ := mchk0 h
 obtain ⟨k1, k2, k3, _⟩ := capV_ne h0
 refine ⟨t.id, ⟨by omega, by omega⟩, t.label, t.masks, t.fr, t.to, ⟨by omega, by omega⟩, ?_⟩
 rw [h3]
 unfold chunksV
 rw [if_neg (by omega)]
 omega
def manB (m : S_api_Manifest) : List Int := leB 8 m.gId ++ (leB 1 m.gKind ++ (leB 4 m.gLabel ++ (m.gMasks.toList ++ (leB 4 m.gFrom ++ (leB 4 m.gTo ++ (leB 4 m.gSize ++ leB 2 m.gChunks))))))
theorem manB_len (m : S_api_Manifest) : (manB m).length = 35 := by unfold manB; simp [leB_len]
theorem manB_bytes {m : S_api_Manifest} (h : vbytes m.gMasks) : bytesL (manB m) := (leB_bytes _ _).app ((leB_bytes _ _).app ((leB_bytes _ _).app (h.app ((leB_bytes _ _).app ((leB_bytes _ _).app ((leB_bytes _ _).app (leB_bytes _ _)))))))
theorem put1 (N : Nat) (hN : 20 < N) (b : List Int) (w : Nat) (hw0 : 1 ≤ w) (hw : w ≤ 8) (x : Int) (hx : 0 ≤ x) (hx2 : x < p256 w) (hb : b.length ≤ 1000000) : p_codec_Put N b (w : Int) [x] = some (b ++ leB w x, 0) := by
 have h8 := p256_le hw
 rw [putP N b w hw0 hw [x] (by intro y hy; simp at hy; subst hy; exact ⟨hx, by omega⟩) (by omega) (by simp) (by omega) (by simp; omega)]
 unfold putV
 have : ([x].any (big w)) = false := by simp [big]; omega
 rw [this, cond_false]
 simp
theorem put3 (N : Nat) (hN : 20 < N) (b : List Int) (w : Nat) (hw0 : 1 ≤ w) (hw : w ≤ 8) (x y z : Int) (hx : 0 ≤ x ∧ x < p256 w) (hy : 0 ≤ y ∧ y < p256 w) (hz : 0 ≤ z ∧ z < p256 w) (hb : b.length ≤ 1000000) : p_codec_Put N b (w : Int) [x, y, z] = some (b ++ (leB w x ++ (leB w y ++ leB w z)), 0) := by
 have h8 := p256_le hw
 rw [putP N b w hw0 hw [x, y, z] (by intro q hq; simp at hq; rcases hq with rfl | rfl | rfl <;> omega) (by omega) (by simp) (by omega) (by simp; omega)]
 unfold putV
 have : ([x, y, z].any (big w)) = false := by simp [big]; omega
 rw [this, cond_false]
 simp
theorem put2 (N : Nat) (hN : 20 < N) (b : List Int) (w : Nat) (hw0 : 1 ≤ w) (hw : w ≤ 8) (x y : Int) (hx : 0 ≤ x ∧ x < p256 w) (hy : 0 ≤ y ∧ y < p256 w) (hb : b.length ≤ 1000000) : p_codec_Put N b (w : Int) [x, y] = some (b ++ (leB w x ++ leB w y), 0) := by
 have h8 := p256_le hw
 rw [putP N b w hw0 hw [x, y] (by intro q hq; simp at hq; rcases hq with rfl | rfl <;> omega) (by omega) (by simp) (by omega) (by simp; omega)]
 unfold putV
 have : ([x, y].any (big w)) = false := by simp [big]; omega
 rw [this, cond_false]
 simp
theorem mencP (N : Nat) (hN : 20 < N) (m : S_api_Manifest) (t : ManT m) : p_manifest_Encode N m = some (if mchkV m = 0 then (manB m, 0) else ([], mchkV m)) := by
 unfold p_manifest_Encode
 rw [mchkP N hN m t.size, Option.bind_some]
 by_cases h : mchkV m = 0
 ·have r := t.r h
  rw [if_pos h, h, show ((0 : Int) != 0) = false from rfl, cond_false]
  have k1 := r.kind
  have k2 := r.size
  have k3 := r.chunks
  have k4 := r.label
  have k5 := r.fr
  have k6 := r.to
  have e1 := put1 N hN [] 8 (by decide) (by decide) m.gId r.id.1 r.id.2 (by simp)
  rw [show p_codec_Put N [] 8 [m.gId] = _ from e1, Option.bind_some, U64_id (x := m.gKind) (by omega) (by omega), U64_id (x := m.gLabel) k4.1 (by have := k4.2; omega), U64_id (x := m.gFrom) k5.1 (by have := k5.2; omega), U64_id (x := m.gTo) k6.1 (by have := k6.2; omega), U64_id (x := m.gSize) (by omega) (by omega), U64_id (x := m.gChunks) (by omega) (by omega)]
  have e2 := put1 N hN ([] ++ leB 8 m.gId) 1 (by decide) (by decide) m.gKind k1.1 k1.2 (by simp [leB_len])
  rw [show p_codec_Put N ([] ++ leB 8 m.gId) 1 [m.gKind] = _ from e2, Option.bind_some]
  have e3 := put1 N hN ([] ++ leB 8 m.gId ++ leB 1 m.gKind) 4 (by decide) (by decide) m.gLabel k4.1 k4.2 (by simp [leB_len])
  rw [show p_codec_Put N ([] ++ leB 8 m.gId ++ leB 1 m.gKind) 4 [m.gLabel] = _ from e3, Option.bind_some]
  rw [show slcO m.gMasks.toList 0 8 = some m.gMasks.toList from slcV (m := 8) _, Option.bind_some, appO1 (by simp [leB_len]) (by simp), Option.bind_some]
  have e4 := put3 N hN ([] ++ leB 8 m.gId ++ leB 1 m.gKind ++ leB 4 m.gLabel ++ m.gMasks.toList) 4 (by decide) (by decide) m.gFrom m.gTo m.gSize ⟨k5.1, k5.2⟩ ⟨k6.1, k6.2⟩ k2 (by simp [leB_len])
  rw [show p_codec_Put N ([] ++ leB 8 m.gId ++ leB 1 m.gKind ++ leB 4 m.gLabel ++ m.gMasks.toList) 4 [m.gFrom, m.gTo, m.gSize] = _ from e4, Option.bind_some]
  have e5 := put1 N hN ([] ++ leB 8 m.gId ++ leB 1 m.gKind ++ leB 4 m.gLabel ++ m.gMasks.toList ++ (leB 4 m.gFrom ++ (leB 4 m.gTo ++ leB 4 m.gSize))) 2 (by decide) (by decide) m.gChunks k3.1 k3.2 (by simp [leB_len])
  rw [show p_codec_Put N ([] ++ leB 8 m.gId ++ leB 1 m.gKind ++ leB 4 m.gLabel ++ m.gMasks.toList ++ (leB 4 m.gFrom ++ (leB 4 m.gTo ++ leB 4 m.gSize))) 2 [m.gChunks] = _ from e5, Option.bind_some]
  congr 2
  unfold manB
  simp [List.append_assoc]
 ·rw [if_neg h, show (mchkV m != 0) = true by simpa using h, cond_true]
theorem leB_inj {w : Nat} (hw : w ≤ 8) {x y : Int} (hx : 0 ≤ x ∧ x < p256 w) (hy : 0 ≤ y ∧ y < p256 w) (h : leB w x = leB w y) : x = y := by
 have := congrArg numV h
 rw [numLe x w hw, numLe y w hw, Int.emod_eq_of_lt hx.1 hx.2, Int.emod_eq_of_lt hy.1 hy.2] at this
 exact this
theorem manB_inj {m m' : S_api_Manifest} (r : ManR m) (r' : ManR m') (h : manB m = manB m') : m = m' := by
 unfold manB at h
 obtain ⟨h1, h⟩ := List.append_inj h (by simp [leB_len])
 obtain ⟨h2, h⟩ := List.append_inj h (by simp [leB_len])
 obtain ⟨h3, h⟩ := List.append_inj h (by simp [leB_len])
 obtain ⟨h4, h⟩ := List.append_inj h (by simp)
 obtain ⟨h5, h⟩ := List.append_inj h (by simp [leB_len])
 obtain ⟨h6, h⟩ := List.append_inj h (by simp [leB_len])
 obtain ⟨h7, h8⟩ := List.append_inj h (by simp [leB_len])
 have q1 := leB_inj (w := 8) (by decide) r.id r'.id h1
 have q2 := leB_inj (w := 1) (by decide) r.kind r'.kind h2
 have q3 := leB_inj (w := 4) (by decide) r.label r'.label h3
 have q4 := Vector.toList_inj.1 h4
 have q5 := leB_inj (w := 4) (by decide) r.fr r'.fr h5
 have q6 := leB_inj (w := 4) (by decide) r.to r'.to h6
 have q7 := leB_inj (w := 4) (by decide) r.size r'.size h7
 have q8 := leB_inj (w := 2) (by decide) r.chunks r'.chunks h8
 cases m; cases m'
 dsimp only at *
 subst q1 q2 q3 q4 q5 q6 q7 q8
 rfl
theorem cpVm {m : Nat} (d : List Int) (h : d.length = m) : ∃ v, cpV (Vector.replicate m (0 : Int)) d 0 m = some v ∧ v.toList = d := by
 unfold cpV
 rw [dif_pos (by omega)]
 refine ⟨_, rfl, ?_⟩
 subst h
 simp [cpy]
def zM : S_api_Manifest := S_api_Manifest.mk 0 0 0 (Vector.replicate 8 0) 0 0 0 0
theorem mdecT (N : Nat) (hN : 20 < N) (b : List Int) (hb : bytesL b) (h35 : b.length = 35) : T (p_manifest_Decode N b) (fun r => ∃ m, ManR m ∧ manB m = b ∧ r = if mchkV m = 0 then (m, 0) else (zM, mchkV m)) := by
 unfold p_manifest_Decode
 rw [newP N b (by omega), Option.bind_some]
 refine T.bind (numT N hN b 0 8 (by decide) (by decide) hb) fun r2 h2 => ?_
 obtain ⟨b2, e2, v2⟩ := r2
 obtain ⟨p2, l2, q2, q2', ⟨rfl, _, c2⟩ | ⟨_, _, _, c2, _⟩⟩ := h2
 rotate_left
 ·have := (c2 rfl).2; omega
 dsimp only at p2 l2 q2 q2' c2 ⊢
 have hl2 := congrArg List.length c2
 rw [List.length_append, leB_len] at hl2
 unfold p_manifest_decoder_int_srzd
 refine T.bind (P := fun r => bytesL r.1 ∧ r.2.1 = 0 ∧ 0 ≤ r.2.2 ∧ r.2.2 < 256 ∧ b2 = leB 1 r.2.2 ++ r.1) (T.bind (numT N hN b2 0 1 (by decide) (by decide) p2) fun r h => T.ret ?_) fun r3 h3 => ?_
 ·obtain ⟨p, l, q, q', ⟨e, _, c⟩ | ⟨_, _, _, c, _⟩⟩ := h
  ·rw [show p256 1 = 256 from rfl] at q'
   have : I64 r.2.2 = r.2.2 := I64_id (by omega) (by omega)
   dsimp only
   rw [this]
   exact ⟨p, e, q, q', c⟩
  ·have := (c rfl).2; omega
 obtain ⟨b3, e3, v3⟩ := r3
 obtain ⟨p3, rfl, q3, q3', c3⟩ := h3
 dsimp only at p3 q3 q3' c3 ⊢
 have hl3 := congrArg List.length c3
 rw [List.length_append, leB_len] at hl3
 refine T.bind (numT N hN b3 0 4 (by decide) (by decide) p3) fun r4 h4 => ?_
 obtain ⟨b4, e4, v4⟩ := r4
 obtain ⟨p4, l4, q4, q4', ⟨rfl, _, c4⟩ | ⟨_, _, _, c4, _⟩⟩ := h4
 rotate_left
 ·have := (c4 rfl).2; omega
 dsimp only at p4 l4 q4 q4' c4 ⊢
 have hl4 := congrArg List.length c4
 rw [List.length_append, leB_len] at hl4
 refine T.bind (o := slcB 8 0 8) (P := fun _ => True) ⟨(), rfl, trivial⟩ fun _ _ => ?_
 refine T.bind (takeT N b4 0 8 p4) fun r6 h6 => ?_
 obtain ⟨b6, e6, v6⟩ := r6
 obtain ⟨p6, pv6, _, _, ⟨rfl, _, c6, l6⟩ | ⟨_, _, _, c6, _⟩⟩ := h6
 rotate_left
 ·have := (c6 rfl).2; omega
 dsimp only at p6 pv6 c6 l6 ⊢
 have hl6 := congrArg List.length c6
 rw [List.length_append, l6] at hl6
 obtain ⟨v7, e7, c7⟩ := cpVm v6 l6
 rw [e7, Option.bind_some]
 refine T.bind (numT N hN b6 0 4 (by decide) (by decide) p6) fun r8 h8 => ?_
 obtain ⟨b8, e8, v8⟩ := r8
 obtain ⟨p8, l8, q8, q8', ⟨rfl, _, c8⟩ | ⟨_, _, _, c8, _⟩⟩ := h8
 rotate_left
 ·have := (c8 rfl).2; omega
 dsimp only at p8 l8 q8 q8' c8 ⊢
 have hl8 := congrArg List.length c8
 rw [List.length_append, leB_len] at hl8
 refine T.bind (numT N hN b8 0 4 (by decide) (by decide) p8) fun r9 h9 => ?_
 obtain ⟨b9, e9, v9⟩ := r9
 obtain ⟨p9, l9, q9, q9', ⟨rfl, _, c9⟩ | ⟨_, _, _, c9, _⟩⟩ := h9
 rotate_left
 ·have := (c9 rfl).2; omega
 dsimp only at p9 l9 q9 q9' c9 ⊢
 have hl9 := congrArg List.length c9
 rw [List.length_append, leB_len] at hl9
 refine T.bind (P := fun r => bytesL r.1 ∧ r.2.1 = 0 ∧ 0 ≤ r.2.2 ∧ r.2.2 < 4294967296 ∧ b9 = leB 4 r.2.2 ++ r.1) (T.bind (numT N hN b9 0 4 (by decide) (by decide) p9) fun r h => T.ret ?_) fun r10 h10 => ?_
 ·obtain ⟨p, l, q, q', ⟨e, _, c⟩ | ⟨_, _, _, c, _⟩⟩ := h
  ·rw [show p256 4 = 4294967296 from rfl] at q'
   have : I64 r.2.2 = r.2.2 := I64_id (by omega) (by omega)
   dsimp only
   rw [this]
   exact ⟨p, e, q, q', c⟩
  ·have := (c rfl).2; omega
 obtain ⟨b10, e10, v10⟩ := r10
 obtain ⟨p10, rfl, q10, q10', c10⟩ := h10
 dsimp only at p10 q10 q10' c10 ⊢
 have hl10 := congrArg List.length c10
 rw [List.length_append, leB_len] at hl10
 refine T.bind (P := fun r => bytesL r.1 ∧ r.2.1 = 0 ∧ 0 ≤ r.2.2 ∧ r.2.2 < 65536 ∧ b10 = leB 2 r.2.2 ++ r.1) (T.bind (numT N hN b10 0 2 (by decide) (by decide) p10) fun r h => T.ret ?_) fun r11 h11 => ?_
 ·obtain ⟨p, l, q, q', ⟨e, _, c⟩ | ⟨_, _, _, c, _⟩⟩ := h
  ·rw [show p256 2 = 65536 from rfl] at q'
   have : I64 r.2.2 = r.2.2 := I64_id (by omega) (by omega)
   dsimp only
   rw [this]
   exact ⟨p, e, q, q', c⟩
  ·have := (c rfl).2; omega
 obtain ⟨b11, e11, v11⟩ := r11
 obtain ⟨p11, rfl, q11, q11', c11⟩ := h11
 dsimp only at p11 q11 q11' c11 ⊢
 have hl11 := congrArg List.length c11
 rw [List.length_append, leB_len] at hl11
 have h0 : b11 = [] := List.eq_nil_of_length_eq_zero (by omega)
 subst h0
 rw [endE, Option.bind_some, show ((0 : Int) != 0) = false from rfl, cond_false, show decide (0 < ([] : List Int).length) = false from rfl, cond_false, show ((0 : Int) != 0) = false from rfl, cond_false]
 rw [show p256 8 = 18446744073709551616 from rfl] at q2'
 rw [show p256 4 = 4294967296 from rfl] at q4' q8' q9'
 have u4 := U32_id q4 q4'
 have u8 := U32_id q8 q8'
 have u9 := U32_id q9 q9'
 rw [u4, u8, u9]
 have R : ManR (S_api_Manifest.mk v2 v3 v4 v7 v8 v9 v10 v11) := ⟨⟨q2, q2'⟩, ⟨q3, q3'⟩, ⟨q4, q4'⟩, by unfold vbytes; rw [show (S_api_Manifest.mk v2 v3 v4 v7 v8 v9 v10 v11).gMasks = v7 from rfl, c7]; exact pv6, ⟨q8, q8'⟩, ⟨q9, q9'⟩, ⟨q10, q10'⟩, ⟨q11, q11'⟩⟩
 rw [mchkP N hN _ ⟨by dsimp only; omega, by dsimp only; omega⟩, Option.bind_some]
 have hB : manB (S_api_Manifest.mk v2 v3 v4 v7 v8 v9 v10 v11) = b := by
  unfold manB
  dsimp only
  rw [c2, c3, c4, c6, c8, c9, c10, c11, c7, List.append_nil]
 by_cases hc : mchkV (S_api_Manifest.mk v2 v3 v4 v7 v8 v9 v10 v11) = 0
 ·rw [hc, show ((0 : Int) != 0) = false from rfl, cond_false]
  exact T.ret ⟨_, R, hB, by rw [if_pos hc]⟩
 ·rw [show (mchkV (S_api_Manifest.mk v2 v3 v4 v7 v8 v9 v10 v11) != 0) = true by simpa using hc, cond_true]
  exact T.ret ⟨_, R, hB, by rw [if_neg hc]; rfl⟩
end Go.UK
namespace Go.UK
open Go Go.Proofs
set_option maxRecDepth 20000
set_option maxHeartbeats 1000000
set_option linter.all false
theorem findT {α : Type} (l : List α) (hl : l.length < 9223372036854775807) (bad : α → Prop) {F : Nat → Int → Option (Sum Unit Int)}
    (hstep : ∀ k i (h : i < l.length), ∃ c, (c = false → ¬ bad l[i]) ∧ F (k + 1) (i : Int) = cond c (some (Sum.inr (i : Int))) (F k (I64 ((i : Int) + 1)))) (hend : ∀ k, F (k + 1) (l.length : Int) = some (Sum.inl ())) :
    ∀ (k i : Nat), i ≤ l.length → l.length - i < k → T (Option.bind (Option.bind (F k (i : Int)) fun o => sumC o (fun p1 => some (-1)) (fun r => some r)) fun r1 : Int => some (decide (r1 ≥ 0))) (fun r => r = false → ∀ x ∈ l.drop i, ¬ bad x)
  | 0, i, _, h => by omega
  | k + 1, i, hi, hk => by
    by_cases h : i < l.length
    · obtain ⟨c, h1, h2⟩ := hstep k i h
      rw [h2]
      cases c with
      | true =>
        refine ⟨true, ?_, fun e => by cases e⟩
        show some (decide ((i : Int) ≥ 0)) = some true
        rw [dt (by omega)]
      | false =>
        rw [cond_false, I64_s (by omega)]
        refine T.mono (findT l hl bad hstep hend k (i + 1) (by omega) (by omega)) fun r hr e x hx => ?_
        rw [List.drop_eq_getElem_cons h] at hx
        rcases List.mem_cons.1 hx with rfl | hx
        · exact h1 rfl
        · exact hr e x hx
    · obtain rfl : i = l.length := by omega
      rw [hend, List.drop_length]
      exact ⟨false, rfl, fun _ x hx => by cases hx⟩
theorem findT0 {α : Type} (l : List α) (hl : l.length < 9223372036854775807) (bad : α → Prop) {F : Nat → Int → Option (Sum Unit Int)}
    (hstep : ∀ k i (h : i < l.length), ∃ c, (c = false → ¬ bad l[i]) ∧ F (k + 1) (i : Int) = cond c (some (Sum.inr (i : Int))) (F k (I64 ((i : Int) + 1)))) (hend : ∀ k, F (k + 1) (l.length : Int) = some (Sum.inl ())) {N : Nat} (hN : l.length < N) :
    T (Option.bind (Option.bind (F N 0) fun o => sumC o (fun p1 => some (-1)) (fun r => some r)) fun r1 : Int => some (decide (r1 ≥ 0))) (fun r => r = false → ∀ x ∈ l, ¬ bad x) :=
  T.mono (findT l hl bad hstep hend N 0 (by omega) (by omega)) fun r hr e x hx => hr e x (by simpa using hx)
theorem imax3 {a b c m : Int} (h : ¬ imax (imax a b) c > m) : a ≤ m ∧ b ≤ m ∧ c ≤ m := by unfold imax at h; split at h <;> split at h <;> omega
theorem imin3 {a b c m : Int} (h : ¬ imin (imin a b) c < m) : m ≤ a ∧ m ≤ b ∧ m ≤ c := by unfold imin at h; split at h <;> split at h <;> omega
theorem imax2 {a b m : Int} (h : ¬ imax a b > m) : a ≤ m ∧ b ≤ m := by unfold imax at h; split at h <;> omega
theorem imin2 {a b m : Int} (h : ¬ imin a b < m) : m ≤ a ∧ m ≤ b := by unfold imin at h; split at h <;> omega
def ptG (p : S_api_Point) : Prop := (-4096 ≤ p.gX ∧ p.gX ≤ 4096) ∧ (-4096 ≤ p.gY ∧ p.gY ≤ 4096) ∧ (-4096 ≤ p.gZ ∧ p.gZ ≤ 4096)
theorem off1T (N : Nat) (p : S_api_Point) : T (p_mesh_Check_1 N p) (fun c => c = false → ptG p) := by
  unfold p_mesh_Check_1
  refine T.bind (P := fun c => c = false → ptG p) ?_ fun c hc => T.ret hc
  refine T.letO fun x hx => T.cond (fun _ => T.ret fun h => by cases h) fun h1 => T.letO fun y hy => T.ret fun h2 => ?_
  subst hx hy
  have h1 := imax3 (of_decide_eq_false h1)
  have h2 := imin3 (of_decide_eq_false h2)
  exact ⟨⟨h2.1, h1.1⟩, ⟨h2.2.1, h1.2.1⟩, h2.2.2, h1.2.2⟩
theorem off2T (N : Nat) (p : S_api_Point) : T (p_asset_Light_1 N p) (fun c => c = false → ptG p) := off1T N p
def uvG (v : Vector Int 2) : Prop := (0 ≤ v[0] ∧ v[0] < 65536) ∧ (0 ≤ v[1] ∧ v[1] < 65536)
theorem v2_0 (v : Vector Int 2) : idx v.toList 0 = some v[0] := by have := idx_get? v.toList 0; rw [vget v 0 (by decide)] at this; exact this
theorem v2_1 (v : Vector Int 2) : idx v.toList 1 = some v[1] := by have := idx_get? v.toList 1; rw [vget v 1 (by decide)] at this; exact this
theorem v3_0 (v : Vector Int 3) : idx v.toList 0 = some v[0] := by have := idx_get? v.toList 0; rw [vget v 0 (by decide)] at this; exact this
theorem v3_1 (v : Vector Int 3) : idx v.toList 1 = some v[1] := by have := idx_get? v.toList 1; rw [vget v 1 (by decide)] at this; exact this
theorem v3_2 (v : Vector Int 3) : idx v.toList 2 = some v[2] := by have := idx_get? v.toList 2; rw [vget v 2 (by decide)] at this; exact this
theorem pairT (N : Nat) (v : Vector Int 2) : T (p_mesh_Check_2 N v) (fun c => c = false → uvG v) := by
  unfold p_mesh_Check_2
  refine T.bind (P := fun c => c = false → uvG v) ?_ fun c hc => T.ret hc
  rw [v2_0, v2_1, Option.bind_some, Option.bind_some]
  refine T.letO fun x hx => T.cond (fun _ => T.ret fun h => by cases h) fun h1 => ?_
  rw [Option.bind_some, Option.bind_some]
  refine T.letO fun y hy => T.ret fun h2 => ?_
  subst hx hy
  have h1 := imin2 (of_decide_eq_false h1)
  have h2 := imax2 (of_decide_eq_false h2)
  exact ⟨⟨h1.1, by omega⟩, h1.2, by omega⟩
def trG (n : Int) (v : Vector Int 3) : Prop := (0 ≤ v[0] ∧ v[0] < n) ∧ (0 ≤ v[1] ∧ v[1] < n) ∧ (0 ≤ v[2] ∧ v[2] < n)
theorem triT (N : Nat) (v : Vector Int 3) (m : S_api_Mesh) : T (p_mesh_Check_3_di N v m) (fun c => c = false → trG (m.gVerts.length : Int) v) := by
  unfold p_mesh_Check_3_di
  refine T.bind (P := fun c => c = false → trG (m.gVerts.length : Int) v) ?_ fun c hc => T.ret hc
  simp only [v3_0, v3_1, v3_2, Option.bind_some]
  refine T.letO fun x hx => T.cond (fun _ => T.ret fun h => by cases h) fun h1 => T.letO fun n hn => T.letO fun y hy => T.cond (fun _ => T.ret fun h => by cases h) fun h2 => ?_
  subst hx hy hn
  have h1 := imin3 (of_decide_eq_false h1)
  have h2 : ¬ imax (imax v[0] v[1]) v[2] > (m.gVerts.length : Int) - 1 := by have := of_decide_eq_false h2; omega
  have h2 := imax3 h2
  have g : trG (m.gVerts.length : Int) v := ⟨⟨h1.1, by omega⟩, ⟨h1.2.1, by omega⟩, h1.2.2, by omega⟩
  exact T.cond (fun _ => T.ret fun _ => g) fun _ => T.cond (fun _ => T.ret fun _ => g) fun _ => T.ret fun _ => g
structure MeshG (m : S_api_Mesh) : Prop where
  nv : m.gVerts.length ≤ 64
  nt : m.gTris.length ≤ 64
  nu : m.gUvs.length = m.gVerts.length
  v : ∀ p ∈ m.gVerts, ptG p
  u : ∀ p ∈ m.gUvs, uvG p
  t : ∀ p ∈ m.gTris, trG 256 p
theorem meshT (N : Nat) (hN : 1000 < N) (m : S_api_Mesh) (hv : m.gVerts.length ≤ 500) (hu : m.gUvs.length ≤ 500) (ht : m.gTris.length ≤ 500) : T (p_mesh_Check N m) (fun c => c = 0 → MeshG m) := by
  unfold p_mesh_Check
  refine T.letO fun x1 e1 => T.letO fun x2 e2 => T.letO fun x3 e3 => ?_
  subst e1 e2 e3
  refine T.cond (fun _ => T.ret fun h => by cases h) fun h1 => ?_
  refine T.letO fun x1 e1 => T.letO fun x2 e2 => T.letO fun x3 e3 => T.letO fun x4 e4 => T.letO fun x5 e5 => ?_
  subst e1 e2 e3 e4 e5
  refine T.cond (fun _ => T.ret fun h => by cases h) fun h2 => ?_
  have a1 : m.gVerts.length ≤ 64 ∧ m.gTris.length ≤ 64 := by
    cases ha : decide ((m.gVerts.length : Int) > 64) with
    | true => rw [ha] at h1; cases h1
    | false => rw [ha, cond_false] at h1; have := of_decide_eq_false ha; have := of_decide_eq_false h1; omega
  have a2 : m.gUvs.length = m.gVerts.length := by
    revert h2
    cases cond ((m.gVerts.length : Int) == 0) true ((m.gTris.length : Int) == 0) with
    | true => intro h; cases h
    | false => intro h; rw [cond_false] at h; have : (m.gUvs.length : Int) = (m.gVerts.length : Int) := by simpa using h
               omega
  refine T.bind (P := fun r => r = false → ∀ p ∈ m.gVerts, ¬ ¬ ptG p) ?_ fun r9 h9 => T.cond (fun _ => T.ret fun h => by cases h) fun c9 => ?_
  · unfold p_slices_ContainsFunc_api_Point_api_Point_Check_1 p_slices_IndexFunc_api_Point_api_Point_Check_1
    refine findT0 m.gVerts (by omega) (fun p => ¬ ptG p) (F := p_slices_IndexFunc_api_Point_api_Point_Check_1_L1 N m.gVerts) (fun k i h => ?_) (fun k => by rw [p_slices_IndexFunc_api_Point_api_Point_Check_1_L1, letO_e, df (by omega), cond_false]) (by omega)
    obtain ⟨c, e, hc⟩ := off1T N m.gVerts[i]
    exact ⟨c, fun h => Classical.not_not.2 (hc h), by rw [p_slices_IndexFunc_api_Point_api_Point_Check_1_L1, letO_e, dt (by omega), cond_true, idx_at h, Option.bind_some, e, Option.bind_some]⟩
  refine T.bind (P := fun r => r = false → (∀ p ∈ m.gUvs, uvG p) ∧ ∀ p ∈ m.gTris, trG (m.gVerts.length : Int) p) ?_ fun r10 h10 => T.cond (fun _ => T.ret fun h => by cases h) fun c10 => T.ret fun _ => ?_
  · refine T.bind (P := fun r => r = false → ∀ p ∈ m.gUvs, ¬ ¬ uvG p) ?_ fun r11 h11 => T.cond (fun _ => T.ret fun h => by cases h) fun c11 => ?_
    · unfold p_slices_ContainsFunc_2_int_2_int_Check_2 p_slices_IndexFunc_2_int_2_int_Check_2
      refine findT0 m.gUvs (by omega) (fun p => ¬ uvG p) (F := p_slices_IndexFunc_2_int_2_int_Check_2_L1 N m.gUvs) (fun k i h => ?_) (fun k => by rw [p_slices_IndexFunc_2_int_2_int_Check_2_L1, letO_e, df (by omega), cond_false]) (by omega)
      obtain ⟨c, e, hc⟩ := pairT N m.gUvs[i]
      exact ⟨c, fun h => Classical.not_not.2 (hc h), by rw [p_slices_IndexFunc_2_int_2_int_Check_2_L1, letO_e, dt (by omega), cond_true, idx_at h, Option.bind_some, e, Option.bind_some]⟩
    · refine T.bind (P := fun r => r = false → ∀ p ∈ m.gTris, ¬ ¬ trG (m.gVerts.length : Int) p) ?_ fun r12 h12 => T.ret fun c12 => ⟨fun p hp => Classical.not_not.1 (h11 c11 p hp), fun p hp => Classical.not_not.1 (h12 c12 p hp)⟩
      unfold p_slices_ContainsFunc_3_int_3_int_Check_3 p_slices_IndexFunc_3_int_3_int_Check_3
      refine findT0 m.gTris (by omega) (fun p => ¬ trG (m.gVerts.length : Int) p) (F := p_slices_IndexFunc_3_int_3_int_Check_3_L1 N m.gTris m) (fun k i h => ?_) (fun k => by rw [p_slices_IndexFunc_3_int_3_int_Check_3_L1, letO_e, df (by omega), cond_false]) (by omega)
      obtain ⟨c, e, hc⟩ := triT N m.gTris[i] m
      exact ⟨c, fun h => Classical.not_not.2 (hc h), by rw [p_slices_IndexFunc_3_int_3_int_Check_3_L1, letO_e, dt (by omega), cond_true, idx_at h, Option.bind_some, e, Option.bind_some]⟩
  obtain ⟨g1, g2⟩ := h10 c10
  exact ⟨a1.1, a1.2, a2, fun p hp => Classical.not_not.1 (h9 c9 p hp), g1, fun p hp => by obtain ⟨q1, q2, q3⟩ := g2 p hp; exact ⟨⟨q1.1, by omega⟩, ⟨q2.1, by omega⟩, q3.1, by omega⟩⟩
structure TexG (t : S_api_Texture) : Prop where
  side : 1 ≤ t.gSide ∧ t.gSide ≤ 16
  n : (t.gTexels.length : Int) = t.gSide * t.gSide
  t : ∀ p ∈ t.gTexels, trG 256 p
theorem containsT (N : Nat) (hN : 1000 < N) (l : List Int) (hl : l.length ≤ 500) (x : Int) : T (p_slices_Contains_int_int N l x) (fun r => r = true → x ∈ l) := by
  unfold p_slices_Contains_int_int p_slices_Index_int_int
  have key : ∀ (k i : Nat), i ≤ l.length → l.length - i < k → T (p_slices_Index_int_int_L1 N l x k (i : Int)) (fun o => (o = Sum.inl ()) ∨ (∃ j, o = Sum.inr j ∧ x ∈ l)) := by
    intro k
    induction k with
    | zero => intro i _ h; omega
    | succ k ih =>
      intro i hi hk
      rw [p_slices_Index_int_int_L1, letO_e]
      by_cases h : i < l.length
      · rw [dt (by omega), cond_true, idx_at h, Option.bind_some, I64_s (by omega)]
        refine T.cond (fun hc => T.ret (.inr ⟨_, rfl, ?_⟩)) fun _ => ih (i + 1) (by omega) (by omega)
        have : x = l[i] := by simpa using hc
        rw [this]
        exact List.getElem_mem h
      · rw [df (by omega), cond_false]
        exact T.ret (.inl rfl)
  refine T.bind (P := fun r : Int => 0 ≤ r → x ∈ l) ?_ fun r hr => T.ret fun h => hr (by have := of_decide_eq_true h; omega)
  refine T.bind (key N 0 (by omega) (by omega)) fun o ho => ?_
  rcases ho with rfl | ⟨j, rfl, hm⟩
  · exact T.ret fun h => by omega
  · exact T.ret fun _ => hm
theorem texT (N : Nat) (hN : 1000 < N) (t : S_api_Texture) (ht : t.gTexels.length ≤ 500) : T (p_texture_Check N t) (fun c => c = 0 → TexG t) := by
  unfold p_texture_Check
  refine T.bind (containsT N hN [1, 2, 4, 8, 16] (by decide) t.gSide) fun r1 h1 => ?_
  refine T.letO fun x2 e2 => T.letO fun x3 e3 => T.letO fun x4 e4 => ?_
  subst e2 e3 e4
  refine T.cond (fun _ => T.ret fun h => by cases h) fun h2 => ?_
  have hr : r1 = true := by cases r1 with | true => rfl | false => cases h2
  subst hr
  have hm := h1 rfl
  have hs : 1 ≤ t.gSide ∧ t.gSide ≤ 16 := by
    simp only [List.mem_cons, List.not_mem_nil, or_false] at hm
    omega
  have hn : (t.gTexels.length : Int) = t.gSide * t.gSide := by
    rw [Bool.not_true, cond_false] at h2
    have h3 : (t.gTexels.length : Int) = I64 (t.gSide * t.gSide) := by simpa using h2
    have : t.gSide * t.gSide ≤ 16 * 16 := Int.mul_le_mul hs.2 hs.2 (by omega) (by decide)
    have : 0 ≤ t.gSide * t.gSide := Int.mul_nonneg (by omega) (by omega)
    rw [h3, I64_id (by omega) (by omega)]
  refine T.letO fun x5 e5 => ?_
  subst e5
  have key : ∀ (k i : Nat), i ≤ t.gTexels.length → t.gTexels.length - i < k → T (p_texture_Check_L1 N (t.gTexels.length : Int) t k (i : Int)) (fun o => o = Sum.inr 5 ∨ (o = Sum.inl () ∧ ∀ p ∈ t.gTexels.drop i, trG 256 p)) := by
    intro k
    induction k with
    | zero => intro i _ h; omega
    | succ k ih =>
      intro i hi hk
      rw [p_texture_Check_L1]
      by_cases h : i < t.gTexels.length
      · rw [dt (by omega), cond_true, idx_at h, Option.bind_some, I64_s (by omega)]
        have g0 : (t.gTexels[i].toList[((0 : Int).toNat)]?) = some t.gTexels[i][0] := vget _ 0 (by decide)
        have g1 : (t.gTexels[i].toList[((1 : Int).toNat)]?) = some t.gTexels[i][1] := vget _ 1 (by decide)
        have g2 : (t.gTexels[i].toList[((2 : Int).toNat)]?) = some t.gTexels[i][2] := vget _ 2 (by decide)
        have i0 : inRO 0 3 = some () := rfl
        have i1 : inRO 1 3 = some () := rfl
        have i2 : inRO 2 3 = some () := rfl
        simp only [i0, i1, i2, g0, g1, g2, Option.bind_some]
        refine T.bind (P := fun c => c = false → trG 256 t.gTexels[i]) ?_ fun c hc => T.cond (fun _ => T.ret (.inl rfl)) fun h0 => ?_
        · refine T.letO fun x hx => T.cond (fun _ => T.ret fun h => by cases h) fun h1 => T.letO fun y hy => T.ret fun h2 => ?_
          subst hx hy
          have h1 := imin3 (of_decide_eq_false h1)
          have h2 := imax3 (of_decide_eq_false h2)
          exact ⟨⟨h1.1, by omega⟩, ⟨h1.2.1, by omega⟩, h1.2.2, by omega⟩
        · refine T.mono (ih (i + 1) (by omega) (by omega)) fun o ho => ?_
          rcases ho with ho | ⟨ho, hp⟩
          · exact .inl ho
          · refine .inr ⟨ho, fun p hp' => ?_⟩
            rw [List.drop_eq_getElem_cons h] at hp'
            rcases List.mem_cons.1 hp' with rfl | hp'
            · exact hc h0
            · exact hp p hp'
      · obtain rfl : i = t.gTexels.length := by omega
        rw [df (by omega), cond_false]
        exact T.ret (.inr ⟨rfl, fun p hp => by rw [List.drop_length] at hp; cases hp⟩)
  refine T.bind (key N 0 (by omega) (by omega)) fun o ho => ?_
  rcases ho with rfl | ⟨rfl, hp⟩
  · exact T.ret fun h => by cases h
  · exact T.ret fun _ => ⟨hs, hn, fun p h => hp p (by simpa using h)⟩
theorem outT (N : Nat) (hN : 1000 < N) (most : Int) (l : List Int) (hl : l.length ≤ 500) : T (p_asset_outside N most l) (fun r => r = false → ∀ x ∈ l, 0 ≤ x ∧ x ≤ most) := by
  unfold p_asset_outside
  refine T.bind (P := fun r => r = false → ∀ x ∈ l, ¬ ¬ (0 ≤ x ∧ x ≤ most)) ?_ fun r hr => T.ret fun h x hx => Classical.not_not.1 (hr h x hx)
  unfold p_slices_ContainsFunc_int_int_outside_1 p_slices_IndexFunc_int_int_outside_1
  refine findT0 l (by omega) (fun x => ¬ (0 ≤ x ∧ x ≤ most)) (F := p_slices_IndexFunc_int_int_outside_1_L1 N l most) (fun k i h => ?_) (fun k => by rw [p_slices_IndexFunc_int_int_outside_1_L1, letO_e, df (by omega), cond_false]) (by omega)
  refine ⟨cond (decide (l[i] < 0)) true (decide (l[i] > most)), fun hc => ?_, ?_⟩
  · have : ¬ l[i] < 0 ∧ ¬ l[i] > most := by
      cases ha : decide (l[i] < 0) with
      | true => rw [ha] at hc; cases hc
      | false => rw [ha, cond_false] at hc; exact ⟨of_decide_eq_false ha, of_decide_eq_false hc⟩
    exact Classical.not_not.2 ⟨by omega, by omega⟩
  · rw [p_slices_IndexFunc_int_int_outside_1_L1, letO_e, dt (by omega), cond_true, idx_at h, Option.bind_some]
    rfl
structure MatG (m : S_api_Material) : Prop where
  kind : 0 ≤ m.gKind ∧ m.gKind < 256
  color : trG 65536 m.gColor
  rough : 0 ≤ m.gRough ∧ m.gRough < 65536
theorem matT (N : Nat) (hN : 1000 < N) (m : S_api_Material) : T (p_asset_Material N m) (fun c => c = 0 → MatG m) := by
  unfold p_asset_Material
  refine T.bind (P := fun c => c = false → MatG m) ?_ fun c hc => T.cond (fun _ => T.ret fun h => by cases h) fun h => T.ret fun _ => hc h
  refine T.bind (outT N hN 4 [m.gKind] (by simp)) fun r2 h2 => T.cond (fun _ => T.ret fun h => by cases h) fun c2 => ?_
  rw [v3_0, v3_1, v3_2, Option.bind_some, Option.bind_some, Option.bind_some]
  refine T.bind (outT N hN 65535 [m.gColor[0], m.gColor[1], m.gColor[2], m.gRough] (by simp)) fun r6 h6 => T.ret fun c6 => ?_
  have a := h2 c2 m.gKind (by simp)
  have b0 := h6 c6 m.gColor[0] (by simp)
  have b1 := h6 c6 m.gColor[1] (by simp)
  have b2 := h6 c6 m.gColor[2] (by simp)
  have b3 := h6 c6 m.gRough (by simp)
  exact ⟨⟨a.1, by omega⟩, ⟨⟨b0.1, by omega⟩, ⟨b1.1, by omega⟩, b2.1, by omega⟩, b3.1, by omega⟩
structure LigG (l : S_api_Light) : Prop where
  kind : 0 ≤ l.gKind ∧ l.gKind < 256
  color : trG 4294967296 l.gColor
  at_ : ptG l.gAt
  u : ptG l.gU
  v : ptG l.gV
theorem ligT (N : Nat) (hN : 1000 < N) (l : S_api_Light) : T (p_asset_Light N l) (fun c => c = 0 → LigG l) := by
  unfold p_asset_Light
  refine T.bind (P := fun c => c = false → (0 ≤ l.gKind ∧ l.gKind < 256) ∧ trG 4294967296 l.gColor) ?_ fun c hc => T.cond (fun _ => T.ret fun h => by cases h) fun h => ?_
  · refine T.bind (outT N hN 2 [l.gKind] (by simp)) fun r2 h2 => T.cond (fun _ => T.ret fun h => by cases h) fun c2 => ?_
    rw [show slcO l.gColor.toList 0 3 = some l.gColor.toList from slcV (m := 3) _, Option.bind_some]
    refine T.bind (outT N hN 1048576 l.gColor.toList (by simp)) fun r4 h4 => T.ret fun c4 => ?_
    have a := h2 c2 l.gKind (by simp)
    have b0 := h4 c4 l.gColor[0] (vmem _ (by decide))
    have b1 := h4 c4 l.gColor[1] (vmem _ (by decide))
    have b2 := h4 c4 l.gColor[2] (vmem _ (by decide))
    exact ⟨⟨a.1, by omega⟩, ⟨b0.1, by omega⟩, ⟨b1.1, by omega⟩, b2.1, by omega⟩
  obtain ⟨hk, hcol⟩ := hc h
  refine T.bind (P := fun c => c = false → ptG l.gAt ∧ ptG l.gU ∧ ptG l.gV) ?_ fun c hc => T.cond (fun _ => T.ret fun h => by cases h) fun h => ?_
  · exact T.bind (off2T N l.gAt) fun r6 h6 => T.cond (fun _ => T.ret fun h => by cases h) fun c6 => T.bind (off2T N l.gU) fun r7 h7 => T.cond (fun _ => T.ret fun h => by cases h) fun c7 => T.bind (off2T N l.gV) fun r8 h8 => T.ret fun c8 => ⟨h6 c6, h7 c7, h8 c8⟩
  obtain ⟨p1, p2, p3⟩ := hc h
  have g : LigG l := ⟨hk, hcol, p1, p2, p3⟩
  refine T.bind (P := fun _ => True) ?_ fun o _ => ?_
  · refine T.cond (fun _ => T.cond (fun _ => T.ret trivial) fun _ => T.bind (P := fun _ => True) ?_ fun _ _ => T.cond (fun _ => T.ret trivial) fun _ => T.ret trivial) fun _ => T.cond (fun _ => T.bind (P := fun _ => True) ?_ fun _ _ => T.cond (fun _ => T.ret trivial) fun _ => T.ret trivial) fun _ => T.ret trivial
    · exact T.letO fun _ _ => T.cond (fun _ => T.ret trivial) fun _ => T.ret trivial
    · exact T.letO fun _ _ => T.cond (fun _ => T.ret trivial) fun _ => T.ret trivial
  · cases o with
    | inl _ => exact T.ret fun _ => g
    | inr c => exact T.ret fun _ => g
end Go.UK
namespace Go.UK
open Go Go.Proofs
set_option maxRecDepth 20000
set_option maxHeartbeats 1000000
set_option linter.all false
theorem pt_eq (a b : S_api_Point) : S_api_Point.eq a b = true ↔ a = b := by
 unfold S_api_Point.eq
 simp only [Bool.and_eq_true, beq_iff_eq, and_true]
 constructor
 ·rintro ⟨h1, h2, h3⟩
  cases a; cases b
  dsimp only at *
  subst h1 h2 h3
  rfl
 ·rintro rfl
  exact ⟨rfl, rfl, rfl⟩
theorem mat_eq (a b : S_api_Material) : S_api_Material.eq a b = true ↔ a = b := by
 unfold S_api_Material.eq
 simp only [Bool.and_eq_true, eqV_iff, beq_iff_eq, and_true]
 constructor
 ·rintro ⟨h1, h2, h3⟩
  cases a; cases b
  dsimp only at *
  subst h1 h2 h3
  rfl
 ·rintro rfl
  exact ⟨rfl, rfl, rfl⟩
theorem lig_eq (a b : S_api_Light) : S_api_Light.eq a b = true ↔ a = b := by
 unfold S_api_Light.eq
 simp only [Bool.and_eq_true, eqV_iff, beq_iff_eq, and_true, pt_eq]
 constructor
 ·rintro ⟨h1, h2, h3, h4, h5⟩
  cases a; cases b
  dsimp only at *
  subst h1 h2 h3 h4 h5
  rfl
 ·rintro rfl
  exact ⟨rfl, rfl, rfl, rfl, rfl⟩
theorem alikeT {α : Type} (eq : α → α → Bool) (heq : ∀ x y, eq x y = true ↔ x = y) (a b : List α) (hl : a.length ≤ 100000) {F : Nat → Int → Option (Sum Unit Bool)}
  (hstep : ∀ k i (h : i < a.length) (h' : i < b.length), F (k + 1) (i : Int) = cond (!eq a[i] b[i]) (some (Sum.inr false)) (F k (I64 ((i : Int) + 1)))) (hend : ∀ k, F (k + 1) (a.length : Int) = some (Sum.inl ())) {N : Nat} (hN : a.length < N) :
  T (letO ((a.length : Int) != (b.length : Int)) fun x1 => cond x1 (some false) (Option.bind (F N 0) fun o => sumC o (fun p2 => some true) (fun r => some r))) (fun r => r = true ↔ a = b) := by
 refine T.letO fun x hx => ?_
 subst hx
 refine T.cond (fun h => T.ret ?_) fun h => ?_
 ·have h : ¬ (a.length : Int) = (b.length : Int) := by simpa using h
  constructor
  ·intro e; cases e
  ·rintro rfl; exact absurd rfl h
 ·have h : (a.length : Int) = (b.length : Int) := by simpa using h
  have key : ∀ (k i : Nat), i ≤ a.length → a.length - i < k → T (Option.bind (F k (i : Int)) fun o => sumC o (fun p2 => some true) (fun r => some r)) (fun r => r = true ↔ a.drop i = b.drop i) := by
   intro k
   induction k with
   | zero => intro i _ h; omega
   | succ k ih =>
    intro i hi hk
    by_cases h1 : i < a.length
    ·rw [hstep k i h1 (by omega), List.drop_eq_getElem_cons h1, List.drop_eq_getElem_cons (show i < b.length by omega)]
     cases he : eq a[i] b[i] with
     | false =>
      refine ⟨false, rfl, ?_⟩
      constructor
      ·intro e; cases e
      ·intro e
       have := (List.cons.inj e).1
       rw [(heq _ _).2 this] at he
       cases he
     | true =>
      rw [Bool.not_true, cond_false, I64_s (by omega)]
      refine T.mono (ih (i + 1) (by omega) (by omega)) fun r hr => ?_
      rw [hr, (heq _ _).1 he]
      constructor
      ·intro e; rw [e]
      ·intro e; exact (List.cons.inj e).2
    ·obtain rfl : i = a.length := by omega
     rw [hend, List.drop_length, List.drop_of_length_le (by omega)]
     exact ⟨true, rfl, by simp⟩
  exact T.mono (key N 0 (by omega) (by omega)) fun r hr => by simpa using hr
theorem alike1 (N : Nat) (a b : List S_api_Point) (hl : a.length ≤ 100000) (hN : a.length < N) : T (p_asset_alike_api_Point N a b) (fun r => r = true ↔ a = b) := by
 unfold p_asset_alike_api_Point
 exact alikeT S_api_Point.eq pt_eq a b hl (F := p_asset_alike_api_Point_L1 N a b) (fun k i h h' => by rw [p_asset_alike_api_Point_L1, letO_e, dt (by omega), cond_true, idx_at h, Option.bind_some, idx_at h', Option.bind_some]) (fun k => by rw [p_asset_alike_api_Point_L1, letO_e, df (by omega), cond_false]) hN
theorem alike2 (N : Nat) (a b : List (Vector Int 2)) (hl : a.length ≤ 100000) (hN : a.length < N) : T (p_asset_alike_2_int N a b) (fun r => r = true ↔ a = b) := by
 unfold p_asset_alike_2_int
 exact alikeT (eqV (fun a b => a == b)) eqV_iff a b hl (F := p_asset_alike_2_int_L1 N a b) (fun k i h h' => by rw [p_asset_alike_2_int_L1, letO_e, dt (by omega), cond_true, idx_at h, Option.bind_some, idx_at h', Option.bind_some]) (fun k => by rw [p_asset_alike_2_int_L1, letO_e, df (by omega), cond_false]) hN
theorem alike3 (N : Nat) (a b : List (Vector Int 3)) (hl : a.length ≤ 100000) (hN : a.length < N) : T (p_asset_alike_3_int N a b) (fun r => r = true ↔ a = b) := by
 unfold p_asset_alike_3_int
 exact alikeT (eqV (fun a b => a == b)) eqV_iff a b hl (F := p_asset_alike_3_int_L1 N a b) (fun k i h h' => by rw [p_asset_alike_3_int_L1, letO_e, dt (by omega), cond_true, idx_at h, Option.bind_some, idx_at h', Option.bind_some]) (fun k => by rw [p_asset_alike_3_int_L1, letO_e, df (by omega), cond_false]) hN
structure AssL (a : S_api_Asset) : Prop where
 v : a.gMesh.gVerts.length ≤ 500
 u : a.gMesh.gUvs.length ≤ 500
 t : a.gMesh.gTris.length ≤ 500
 x : a.gTexture.gTexels.length ≤ 500
theorem sameT (N : Nat) (hN : 1000 < N) (a b : S_api_Asset) (h : AssL a) : T (p_asset_Same N a b) (fun r => r = true ↔ a = b) := by
 unfold p_asset_Same
 refine T.bind (P := fun r => r = false ↔ (a.gKind = b.gKind ∧ a.gMaterial = b.gMaterial ∧ a.gLight = b.gLight ∧ a.gTexture.gSide = b.gTexture.gSide)) ?_ fun p1 h1 => T.cond (fun c => T.ret ?_) fun c => ?_
 ·refine T.cond (fun c => T.ret ?_) fun c => ?_
  ·have c : ¬ a.gKind = b.gKind := by simpa using c
   constructor
   ·intro e; cases e
   ·intro e; exact absurd e.1 c
  ·have c : a.gKind = b.gKind := by simpa using c
   refine T.letO fun x2 e2 => T.cond (fun c2 => T.ret ?_) fun c2 => T.letO fun x3 e3 => T.letO fun x4 e4 => T.ret ?_
   ·subst e2
    constructor
    ·intro e; cases e
    ·intro e
     rw [(mat_eq _ _).2 e.2.1] at c2
     cases c2
   ·subst e2 e3 e4
    have hm : S_api_Material.eq a.gMaterial b.gMaterial = true := by simpa using c2
    have hm := (mat_eq _ _).1 hm
    constructor
    ·intro e
     cases hl : S_api_Light.eq a.gLight b.gLight with
     | false => rw [hl] at e; cases e
     | true =>
      rw [hl, Bool.not_true, cond_false] at e
      exact ⟨c, hm, (lig_eq _ _).1 hl, by simpa using e⟩
    ·rintro ⟨_, _, e1, e2⟩
     rw [(lig_eq _ _).2 e1, e2]
     simp
 ·constructor
  ·intro e; cases e
  ·rintro rfl
   have := h1.2 ⟨rfl, rfl, rfl, rfl⟩
   rw [this] at c
   cases c
 ·obtain ⟨g1, g2, g3, g4⟩ := h1.1 c
  refine T.bind (P := fun r => r = true ↔ (a.gMesh.gVerts = b.gMesh.gVerts ∧ a.gMesh.gUvs = b.gMesh.gUvs ∧ a.gMesh.gTris = b.gMesh.gTris ∧ a.gTexture.gTexels = b.gTexture.gTexels)) ?_ fun r hr => T.ret ?_
  ·refine T.bind (alike1 N _ _ (by have := h.v; omega) (by have := h.v; omega)) fun r6 h6 => T.cond (fun c6 => ?_) fun c6 => T.ret ?_
   ·refine T.bind (alike2 N _ _ (by have := h.u; omega) (by have := h.u; omega)) fun r7 h7 => T.cond (fun c7 => ?_) fun c7 => T.ret ?_
    ·refine T.bind (alike3 N _ _ (by have := h.t; omega) (by have := h.t; omega)) fun r8 h8 => T.cond (fun c8 => ?_) fun c8 => T.ret ?_
     ·refine T.bind (alike3 N _ _ (by have := h.x; omega) (by have := h.x; omega)) fun r9 h9 => T.ret ?_
      exact ⟨fun e => ⟨h6.1 c6, h7.1 c7, h8.1 c8, h9.1 e⟩, fun e => h9.2 e.2.2.2⟩
     ·exact ⟨fun e => (by cases e), fun e => by rw [h8.2 e.2.2.1] at c8; cases c8⟩
    ·exact ⟨fun e => (by cases e), fun e => by rw [h7.2 e.2.1] at c7; cases c7⟩
   ·exact ⟨fun e => (by cases e), fun e => by rw [h6.2 e.1] at c6; cases c6⟩
  ·rw [hr]
   constructor
   ·rintro ⟨q1, q2, q3, q4⟩
    obtain ⟨k, ⟨v, u, t⟩, ⟨s, x⟩, m, l⟩ := a
    obtain ⟨k', ⟨v', u', t'⟩, ⟨s', x'⟩, m', l'⟩ := b
    dsimp only at *
    subst g1 g2 g3 g4 q1 q2 q3 q4
    rfl
   ·rintro rfl
    exact ⟨rfl, rfl, rfl, rfl⟩
def ptB (p : S_api_Point) : List Int := leB 2 (p.gX % 65536) ++ (leB 2 (p.gY % 65536) ++ leB 2 (p.gZ % 65536))
def uvB (v : Vector Int 2) : List Int := leB 2 v[0] ++ leB 2 v[1]
def trB (w : Nat) (t : Vector Int 3) : List Int := leB w t[0] ++ (leB w t[1] ++ leB w t[2])
theorem ptB_len (p : S_api_Point) : (ptB p).length = 6 := by unfold ptB; simp [leB_len]
theorem uvB_len (p : Vector Int 2) : (uvB p).length = 4 := by unfold uvB; simp [leB_len]
theorem trB_len (w : Nat) (p : Vector Int 3) : (trB w p).length = 3 * w := by unfold trB; simp [leB_len]; omega
theorem ptB_bytes (p : S_api_Point) : bytesL (ptB p) := (leB_bytes _ _).app ((leB_bytes _ _).app (leB_bytes _ _))
theorem uvB_bytes (p : Vector Int 2) : bytesL (uvB p) := (leB_bytes _ _).app (leB_bytes _ _)
theorem trB_bytes (w : Nat) (p : Vector Int 3) : bytesL (trB w p) := (leB_bytes _ _).app ((leB_bytes _ _).app (leB_bytes _ _))
theorem flat_bytes {α : Type} {f : α → List Int} (h : ∀ x, bytesL (f x)) (l : List α) : bytesL (l.flatMap f) := by
 intro y hy
 obtain ⟨x, _, hx⟩ := List.mem_flatMap.1 hy
 exact h x y hx
theorem flat_len {α : Type} {f : α → List Int} {c : Nat} (h : ∀ x, (f x).length = c) : ∀ (l : List α), (l.flatMap f).length = l.length * c
 | [] => by simp
 | a :: l => by rw [List.flatMap_cons, List.length_append, h, flat_len h l, List.length_cons, Nat.add_mul]; omega
theorem leB1 {x : Int} (h : 0 ≤ x ∧ x < 256) : leB 1 x = [x] := by
 unfold leB
 show [U8 (shr .u64 x ((8 * 0 : Nat) : Int))] = _
 rw [shr8 x 0 (by decide), show p256 0 = 1 from rfl, Int.ediv_one, U8_id h.1 h.2]
def meshB (m : S_api_Mesh) : List Int := leB 1 (m.gVerts.length : Int) ++ (leB 1 (m.gTris.length : Int) ++ (m.gVerts.flatMap ptB ++ (m.gUvs.flatMap uvB ++ m.gTris.flatMap (trB 1))))
def texB (t : S_api_Texture) : List Int := leB 1 t.gSide ++ t.gTexels.flatMap (trB 1)
def matB (m : S_api_Material) : List Int := leB 1 m.gKind ++ (trB 2 m.gColor ++ leB 2 m.gRough)
def ligB (l : S_api_Light) : List Int := leB 1 l.gKind ++ (trB 4 l.gColor ++ (ptB l.gAt ++ (ptB l.gU ++ ptB l.gV)))
theorem sgn3 (N : Nat) (hN : 20 < N) (b : List Int) (p : S_api_Point) (h : ptG p) (hb : b.length ≤ 1000000) : p_codec_Signed N b 2 [p.gX, p.gY, p.gZ] = some (b ++ ptB p, 0) := by
 obtain ⟨hx, hy, hz⟩ := h
 have := sgnP N b 2 (by decide) (by decide) [p.gX, p.gY, p.gZ] (by intro q hq; simp at hq; unfold in64; rcases hq with rfl | rfl | rfl <;> omega) (by omega) (by simp) (by omega) (by simp; omega)
 rw [show p_codec_Signed N b 2 [p.gX, p.gY, p.gZ] = _ from this]
 unfold sgnV
 have e : ([p.gX, p.gY, p.gZ].any (badS 2)) = false := by
  simp [badS, show p256 2 / 2 = 32768 from rfl]
  omega
 rw [e, cond_false]
 unfold putV
 have e2 : (([p.gX, p.gY, p.gZ].map (fun x => x % p256 2)).any (big 2)) = false := by
  simp [big, show p256 2 = 65536 from rfl]
  omega
 rw [e2, cond_false]
 unfold ptB
 simp [show p256 2 = 65536 from rfl]
theorem meshE (N : Nat) (hN : 1000 < N) (m : S_api_Mesh) (g : MeshG m) (h0 : p_mesh_Check N m = some 0) : p_mesh_Encode N m = some (meshB m, 0) := by
 unfold p_mesh_Encode
 have nv := g.nv
 have nt := g.nt
 have nu := g.nu
 rw [h0, Option.bind_some, show ((0 : Int) != 0) = false from rfl, cond_false, letO_e, letO_e, letO_e, U8_id (x := (m.gVerts.length : Int)) (by omega) (by omega), U8_id (x := (m.gTris.length : Int)) (by omega) (by omega)]
 have l1 := loopFlat0 m.gVerts.length (by omega) (fun i => ptB (m.gVerts.getD i ⟨0, 0, 0⟩)) (fun s i => s.length ≤ 100 + 6 * i) (p_mesh_Encode_L1 N (m.gVerts.length : Int) m) (by intro s i hi hs; simp [ptB_len]; omega) (fun k s i hi hs => by
  have hp := g.v _ (List.getElem_mem hi)
  rw [p_mesh_Encode_L1, dt (by omega), cond_true, idx_at hi, Option.bind_some, sgn3 N (by omega) s _ hp (by omega), Option.bind_some]
  rw [List.getD_eq_getElem?_getD, List.getElem?_eq_getElem hi]
  rfl) (fun k s => by rw [p_mesh_Encode_L1, df (by omega), cond_false]) (N := N) (by omega) (s := [(m.gVerts.length : Int), (m.gTris.length : Int)]) (by simp)
 rw [l1, Option.bind_some]
 have hflat : ∀ {α : Type} (l : List α) (d : α) (f : α → List Int), (List.range l.length).flatMap (fun i => f (l.getD i d)) = l.flatMap f := by
  intro α l d f
  induction l with
  | nil => rfl
  | cons a l ih =>
   rw [List.length_cons, List.range_succ_eq_map, List.flatMap_cons, List.flatMap_map]
   simp only [List.getD_cons_zero, List.getD_cons_succ, List.flatMap_cons]
   rw [ih]
 rw [hflat m.gVerts ⟨0, 0, 0⟩ ptB]
 have hlen1 := flat_len ptB_len m.gVerts
 have l2 := loopFlat0 m.gUvs.length (by omega) (fun i => uvB (m.gUvs.getD i #v[0, 0])) (fun s i => s.length ≤ 1000 + 4 * i) (p_mesh_Encode_L2 N m) (by intro s i hi hs; simp [uvB_len]; omega) (fun k s i hi hs => by
  have hp := g.u _ (List.getElem_mem hi)
  rw [p_mesh_Encode_L2, letO_e, dt (by omega), cond_true, idx_at hi, Option.bind_some, show inRO 0 2 = some () from rfl, Option.bind_some, show m.gUvs[i].toList[((0 : Int).toNat)]? = some m.gUvs[i][0] from vget _ 0 (by decide), Option.bind_some, show inRO 1 2 = some () from rfl, Option.bind_some, show m.gUvs[i].toList[((1 : Int).toNat)]? = some m.gUvs[i][1] from vget _ 1 (by decide), Option.bind_some, U64_id hp.1.1 (by have := hp.1.2; omega), U64_id hp.2.1 (by have := hp.2.2; omega)]
  have e := put2 N (by omega) s 2 (by decide) (by decide) m.gUvs[i][0] m.gUvs[i][1] ⟨hp.1.1, hp.1.2⟩ ⟨hp.2.1, hp.2.2⟩ (by omega)
  rw [show p_codec_Put N s 2 [m.gUvs[i][0], m.gUvs[i][1]] = _ from e, Option.bind_some, List.getD_eq_getElem?_getD, List.getElem?_eq_getElem hi]
  rfl) (fun k s => by rw [p_mesh_Encode_L2, letO_e, df (by omega), cond_false]) (N := N) (by omega) (s := [(m.gVerts.length : Int), (m.gTris.length : Int)] ++ m.gVerts.flatMap ptB) (by simp at hlen1 ⊢; omega)
 rw [l2, Option.bind_some, hflat m.gUvs #v[0, 0] uvB, letO_e]
 have hlen2 := flat_len uvB_len m.gUvs
 have l3 := loopFlat0 m.gTris.length (by omega) (fun i => trB 1 (m.gTris.getD i #v[0, 0, 0])) (fun s i => s.length ≤ 2000 + 3 * i) (p_mesh_Encode_L3 N (m.gTris.length : Int) m) (by intro s i hi hs; simp [trB_len]; omega) (fun k s i hi hs => by
  have hp := g.t _ (List.getElem_mem hi)
  obtain ⟨q0, q1, q2⟩ := hp
  rw [p_mesh_Encode_L3, dt (by omega), cond_true, idx_at hi, Option.bind_some, show inRO 0 3 = some () from rfl, Option.bind_some, show m.gTris[i].toList[((0 : Int).toNat)]? = some m.gTris[i][0] from vget _ 0 (by decide), Option.bind_some, show inRO 1 3 = some () from rfl, Option.bind_some, show m.gTris[i].toList[((1 : Int).toNat)]? = some m.gTris[i][1] from vget _ 1 (by decide), Option.bind_some, show inRO 2 3 = some () from rfl, Option.bind_some, show m.gTris[i].toList[((2 : Int).toNat)]? = some m.gTris[i][2] from vget _ 2 (by decide), Option.bind_some, U8_id q0.1 q0.2, U8_id q1.1 q1.2, U8_id q2.1 q2.2, appO1 (by omega) (by simp), Option.bind_some, List.getD_eq_getElem?_getD, List.getElem?_eq_getElem hi]
  show p_mesh_Encode_L3 N _ m k (s ++ [m.gTris[i][0], m.gTris[i][1], m.gTris[i][2]]) _ = p_mesh_Encode_L3 N _ m k (s ++ trB 1 m.gTris[i]) _
  unfold trB
  rw [leB1 q0, leB1 q1, leB1 q2]
  rfl) (fun k s => by rw [p_mesh_Encode_L3, df (by omega), cond_false]) (N := N) (by omega) (s := [(m.gVerts.length : Int), (m.gTris.length : Int)] ++ m.gVerts.flatMap ptB ++ m.gUvs.flatMap uvB) (by simp at hlen1 hlen2 ⊢; omega)
 rw [l3, Option.bind_some, hflat m.gTris #v[0, 0, 0] (trB 1)]
 unfold meshB
 rw [leB1 (x := (m.gVerts.length : Int)) ⟨by omega, by omega⟩, leB1 (x := (m.gTris.length : Int)) ⟨by omega, by omega⟩]
 simp [List.append_assoc]
theorem hflat {α : Type} (l : List α) (d : α) (f : α → List Int) : (List.range l.length).flatMap (fun i => f (l.getD i d)) = l.flatMap f := by
 induction l with
 | nil => rfl
 | cons a l ih =>
  rw [List.length_cons, List.range_succ_eq_map, List.flatMap_cons, List.flatMap_map]
  simp only [List.getD_cons_zero, List.getD_cons_succ, List.flatMap_cons]
  rw [ih]
theorem texE (N : Nat) (hN : 1000 < N) (t : S_api_Texture) (g : TexG t) (h0 : p_texture_Check N t = some 0) : p_texture_Encode N t = some (texB t, 0) := by
 unfold p_texture_Encode
 have n1 := g.side
 have n2 := g.n
 have n3 : t.gSide * t.gSide ≤ 16 * 16 := Int.mul_le_mul n1.2 n1.2 (by omega) (by decide)
 rw [h0, Option.bind_some, show ((0 : Int) != 0) = false from rfl, cond_false, letO_e, U8_id (x := t.gSide) (by omega) (by omega)]
 have l3 := loopFlat0 t.gTexels.length (by omega) (fun i => trB 1 (t.gTexels.getD i #v[0, 0, 0])) (fun s i => s.length ≤ 2000 + 3 * i) (p_texture_Encode_L1 N (t.gTexels.length : Int) t) (by intro s i hi hs; simp [trB_len]; omega) (fun k s i hi hs => by
  have hp := g.t _ (List.getElem_mem hi)
  obtain ⟨q0, q1, q2⟩ := hp
  rw [p_texture_Encode_L1, dt (by omega), cond_true, idx_at hi, Option.bind_some, show inRO 0 3 = some () from rfl, Option.bind_some, show t.gTexels[i].toList[((0 : Int).toNat)]? = some t.gTexels[i][0] from vget _ 0 (by decide), Option.bind_some, show inRO 1 3 = some () from rfl, Option.bind_some, show t.gTexels[i].toList[((1 : Int).toNat)]? = some t.gTexels[i][1] from vget _ 1 (by decide), Option.bind_some, show inRO 2 3 = some () from rfl, Option.bind_some, show t.gTexels[i].toList[((2 : Int).toNat)]? = some t.gTexels[i][2] from vget _ 2 (by decide), Option.bind_some, U8_id q0.1 q0.2, U8_id q1.1 q1.2, U8_id q2.1 q2.2, appO1 (by omega) (by simp), Option.bind_some, List.getD_eq_getElem?_getD, List.getElem?_eq_getElem hi]
  show p_texture_Encode_L1 N _ t k (s ++ [t.gTexels[i][0], t.gTexels[i][1], t.gTexels[i][2]]) _ = p_texture_Encode_L1 N _ t k (s ++ trB 1 t.gTexels[i]) _
  unfold trB
  rw [leB1 q0, leB1 q1, leB1 q2]
  rfl) (fun k s => by rw [p_texture_Encode_L1, df (by omega), cond_false]) (N := N) (by omega) (s := [t.gSide]) (by simp)
 rw [l3, Option.bind_some, hflat t.gTexels #v[0, 0, 0] (trB 1)]
 unfold texB
 rw [leB1 (x := t.gSide) ⟨by omega, by omega⟩]
end Go.UK
