/- A part of the proof: what the functions of the program compute. -/
import Derived.Test.YtljnaeghnleipaaR13
namespace Go.UK
open Go Go.Proofs
set_option maxRecDepth 20000
set_option maxHeartbeats 1000000
set_option linter.all false
def headB (base : Vector Int 8) (m : S_api_Manifest) : List Int := [85, 77, 66, 49] ++ (base.toList ++ manB m)
theorem headB_len (base : Vector Int 8) (m : S_api_Manifest) : (headB base m).length = 47 := by unfold headB; simp [manB_len]
def markV (N : Nat) (key : Vector Int 32) (base : Vector Int 8) (m : S_api_Manifest) : List Int := sealV N key (nonV N base 0) (headB base m) []
theorem markV_len (N : Nat) (hN : 70000 ≤ N) (key : Vector Int 32) (base : Vector Int 8) (m : S_api_Manifest) : (markV N key base m).length = 16 := by
 unfold markV; rw [sealV_len N hN key _ _ (by simp)]; rfl
theorem markV_bytes (N : Nat) (hN : 70000 ≤ N) (key : Vector Int 32) (base : Vector Int 8) (m : S_api_Manifest) : bytesL (markV N key base m) := by
 unfold markV; exact sealV_bytes N hN key _ _ (by rw [headB_len]; omega) (by simp)
def preB (i n : Nat) : List Int := leB 2 (i : Int) ++ leB 2 (n : Int)
theorem preB_len (i n : Nat) : (preB i n).length = 4 := by unfold preB; simp [leB_len]
theorem preB_bytes (i n : Nat) : bytesL (preB i n) := (leB_bytes _ _).app (leB_bytes _ _)
def sealC (N : Nat) (key : Vector Int 32) (base : Vector Int 8) (mark : List Int) (i : Nat) (p : List Int) : List Int := sealV N key (nonV N base ((i + 1 : Nat) : Int)) (preB i p.length ++ mark) p
def chunkF (N : Nat) (key : Vector Int 32) (base : Vector Int 8) (mark : List Int) (i : Nat) (p : List Int) : List Int := preB i p.length ++ sealC N key base mark i p
theorem chunkF_len (N : Nat) (hN : 70000 ≤ N) (key : Vector Int 32) (base : Vector Int 8) (mark : List Int) (i : Nat) {p : List Int} (hp : p.length ≤ 65536) : (chunkF N key base mark i p).length = p.length + 20 := by
 unfold chunkF sealC; rw [List.length_append, preB_len, sealV_len N hN key _ _ hp]; omega
def bodyC (N : Nat) (key : Vector Int 32) (base : Vector Int 8) (mark : List Int) : Nat → Nat → List Int → List Int
 | 0, _, _ => []
 | c + 1, i, l => chunkF N key base mark i (l.take 256) ++ bodyC N key base mark c (i + 1) (l.drop 256)
def nCh (n : Nat) : Nat := (n + 255) / 256
theorem nCh_e (n : Nat) : chunksV (n : Int) = (nCh n : Int) := by unfold chunksV nCh; split <;> omega
theorem bodyC_len (N : Nat) (hN : 70000 ≤ N) (key : Vector Int 32) (base : Vector Int 8) (mark : List Int) : ∀ (c i : Nat) (l : List Int), (bodyC N key base mark c i l).length = (min l.length (256 * c)) + 20 * c
 | 0, _, _ => by simp [bodyC]
 | c + 1, i, l => by
  rw [bodyC, List.length_append, chunkF_len N hN key base mark i (by simp; omega), bodyC_len N hN key base mark c (i + 1), List.length_take, List.length_drop]
  omega
theorem sealR1 (N : Nat) (hN : 70000 ≤ N) (key : Vector Int 32) (base : Vector Int 8) (s mark q : List Int) (i : Nat) (p : List Int) (hm : mark.length = 16) (hi : i < 1000) (hp : p.length ≤ 256) (hs : s.length ≤ 100000) :
  p_bundle_Seal_R1 N s key base mark q (i : Int) p = some (s ++ chunkF N key base mark i p) := by
 unfold p_bundle_Seal_R1
 have e := put2 N (by omega) [] 2 (by decide) (by decide) (i : Int) (p.length : Int) ⟨by omega, by rw [show p256 2 = 65536 from rfl]; omega⟩ ⟨by omega, by rw [show p256 2 = 65536 from rfl]; omega⟩ (by simp)
 rw [U64_id (x := (p.length : Int)) (by omega) (by omega), letO_e, U64_id (x := (i : Int)) (by omega) (by omega), show p_codec_Put N [] 2 [(i : Int), (p.length : Int)] = _ from e, Option.bind_some, I64_s (by omega), nonP N (by omega), Option.bind_some]
 dsimp only
 rw [List.nil_append, show leB 2 (i : Int) ++ leB 2 (p.length : Int) = preB i p.length from rfl, concP N [preB i p.length, mark] (by simp) (by show 2 < N; omega) (by intro l hl; simp only [List.mem_cons, List.not_mem_nil, or_false] at hl; rcases hl with rfl | rfl; rw [preB_len]; omega; omega), Option.bind_some]
 have e2 : [preB i p.length, mark].flatten = preB i p.length ++ mark := by simp
 rw [e2, sealP N hN key _ _ p (by rw [List.length_append, preB_len]; omega) (by omega), Option.bind_some, appO1 (by omega) (by rw [preB_len]; omega), Option.bind_some]
 dsimp only
 rw [appO1 (by rw [List.length_append, preB_len]; omega) (by rw [sealV_len N hN key _ _ (by omega)]; omega), Option.bind_some, List.append_assoc]
 rfl
theorem take_min {α : Type} (l : List α) : l.take (min l.length 256) = l.take 256 := by
 by_cases h : l.length ≤ 256
 ·rw [Nat.min_eq_left h, List.take_length, List.take_of_length_le h]
 ·rw [Nat.min_eq_right (by omega)]
theorem drop_min {α : Type} (l : List α) : l.drop (min l.length 256) = l.drop 256 := by
 by_cases h : l.length ≤ 256
 ·rw [Nat.min_eq_left h, List.drop_length, List.drop_eq_nil_of_le h]
 ·rw [Nat.min_eq_right (by omega)]
theorem sealL (N : Nat) (hN : 70000 ≤ N) (key : Vector Int 32) (base : Vector Int 8) (mark : List Int) (hm : mark.length = 16) : ∀ (k : Nat) (s l : List Int) (i : Nat), nCh l.length < k → i + nCh l.length ≤ 100 → s.length + 300 * nCh l.length ≤ 100000 →
  p_bundle_chunks_1_for_bundle_Seal_R1_L1 N key base mark k s l (i : Int) = some (s ++ bodyC N key base mark (nCh l.length) i l, [])
 | 0, _, _, _, h, _, _ => by omega
 | k + 1, s, l, i, hk, hi, hs => by
  rw [p_bundle_chunks_1_for_bundle_Seal_R1_L1, letO_e]
  by_cases h : l.length = 0
  ·obtain rfl := List.eq_nil_of_length_eq_zero h
   rw [df (by simp), cond_false, show nCh ([] : List Int).length = 0 from rfl, bodyC, List.append_nil]
  ·have hn : nCh l.length = nCh (l.drop 256).length + 1 := by unfold nCh; rw [List.length_drop]; omega
   rw [dt (by omega), cond_true, show (256 : Int) = ((256 : Nat) : Int) from rfl, imin_nat, letO_e, slc3O_ok (by omega), Option.bind_some, take_min, sealR1 N hN key base s mark l i _ hm (by omega) (by simp; omega) (by omega), Option.bind_some, slcO_drop (by omega), Option.bind_some, drop_min, I64_s (by omega)]
   rw [sealL N hN key base mark hm k _ (l.drop 256) (i + 1) (by omega) (by omega) (by rw [List.length_append, chunkF_len N hN key base mark i (by simp; omega), List.length_take]; omega)]
   rw [hn, bodyC, List.append_assoc]
def bundleB (N : Nat) (key : Vector Int 32) (base : Vector Int 8) (m : S_api_Manifest) (p : List Int) : List Int :=
 headB base m ++ (markV N key base m ++ bodyC N key base (markV N key base m) (nCh p.length) 0 p)
theorem bundleB_len (N : Nat) (hN : 70000 ≤ N) (key : Vector Int 32) (base : Vector Int 8) (m : S_api_Manifest) (p : List Int) : (bundleB N key base m p).length = 63 + p.length + 20 * nCh p.length := by
 unfold bundleB
 rw [List.length_append, List.length_append, headB_len, markV_len N hN, bodyC_len N hN]
 unfold nCh
 omega
def fullM (m : S_api_Manifest) (n : Nat) : S_api_Manifest := S_api_Manifest.mk m.gId m.gKind m.gLabel m.gMasks m.gFrom m.gTo (n : Int) (nCh n : Int)
theorem capV_le (k : Int) : capV k ≤ 2048 := by unfold capV; split; decide; split; decide; split; decide; split <;> decide
theorem fullM_T {m : S_api_Manifest} (t : ManT m) {n : Nat} (h : n ≤ 2048) : ManT (fullM m n) :=
 ⟨t.id, t.kind, t.label, t.masks, t.fr, t.to, ⟨by show _ ≤ (n : Int); omega, by show (n : Int) ≤ _; omega⟩, ⟨by show _ ≤ (nCh n : Int); omega, by show (nCh n : Int) ≤ _; unfold nCh; omega⟩⟩
theorem GoodA.len {N : Nat} {a : S_api_Asset} (g : GoodA N a) : (assB a).length ≤ 2048 := by have := g.cap; have := capV_le a.gKind; omega
theorem sealT (N : Nat) (hN : 70000 ≤ N) (key : Vector Int 32) (base : Vector Int 8) (m : S_api_Manifest) (a : S_api_Asset) (t : ManT m) (hA : AssL a) :
  T (p_bundle_Seal N key base m a) (fun r => (r.2 = 0 ∧ GoodA N a ∧ m.gKind = a.gKind ∧ mchkV (fullM m (assB a).length) = 0 ∧ r.1 = bundleB N key base (fullM m (assB a).length) (assB a)) ∨ (r.2 ≠ 0 ∧ r.1 = [] ∧ ¬ (GoodA N a ∧ m.gKind = a.gKind ∧ mchkV (fullM m (assB a).length) = 0))) := by
 unfold p_bundle_Seal
 obtain ⟨r1, e1, h1⟩ := encodeT N (by omega) a hA
 rw [e1, Option.bind_some]
 rcases h1 with ⟨c, g, h⟩ | ⟨c, _, h⟩
 rotate_left
 ·rw [show (r1.2 != 0) = true by simpa using c, cond_true]
  exact T.ret (.inr ⟨c, rfl, fun q => h q.1⟩)
 ·rw [c, show ((0 : Int) != 0) = false from rfl, cond_false, h]
  have hl := g.len
  by_cases hk : m.gKind = a.gKind
  rotate_left
  ·rw [show (m.gKind != a.gKind) = true by simpa using hk, cond_true]
   exact T.ret (.inr ⟨by decide, rfl, fun q => hk q.2.1⟩)
  rw [show (m.gKind != a.gKind) = false by simpa using hk, cond_false, chunksP N ⟨by omega, by omega⟩, Option.bind_some, nCh_e]
  have e3 := mencP N (by omega) (fullM m (assB a).length) (fullM_T t hl)
  rw [show p_manifest_Encode N (S_api_Manifest.mk m.gId m.gKind m.gLabel m.gMasks m.gFrom m.gTo ((assB a).length : Int) (nCh (assB a).length : Int)) = _ from e3, Option.bind_some]
  by_cases hc : mchkV (fullM m (assB a).length) = 0
  rotate_left
  ·rw [if_neg hc]
   dsimp only
   rw [show (mchkV (fullM m (assB a).length) != 0) = true by simpa using hc, cond_true]
   exact T.ret (.inr ⟨hc, rfl, fun q => hc q.2.2⟩)
  rw [if_pos hc]
  dsimp only
  rw [show ((0 : Int) != 0) = false from rfl, cond_false, show slcO base.toList 0 8 = some base.toList from slcV (m := 8) _, Option.bind_some]
  rw [concP N [[85, 77, 66, 49], base.toList, manB (fullM m (assB a).length)] (by simp) (by show 3 < N; omega) (by intro l hl; simp only [List.mem_cons, List.not_mem_nil, or_false] at hl; rcases hl with rfl | rfl | rfl; simp; simp; rw [manB_len]; omega), Option.bind_some]
  rw [show ([[85, 77, 66, 49], base.toList, manB (fullM m (assB a).length)] : List (List Int)).flatten = headB base (fullM m (assB a).length) by unfold headB; simp, nonP N (by omega), Option.bind_some]
  rw [sealP N hN key _ _ [] (by rw [headB_len]; omega) (by simp), Option.bind_some]
  dsimp only
  rw [show sealV N key (nonV N base 0) (headB base (fullM m (assB a).length)) [] = markV N key base (fullM m (assB a).length) from rfl]
  have hm := markV_len N hN key base (fullM m (assB a).length)
  rw [appO1 (by rw [headB_len]; omega) (by omega), Option.bind_some]
  rw [show p_bundle_chunks N (assB a) = some () from rfl, Option.bind_some]
  unfold p_bundle_chunks_1_for_bundle_Seal_R1
  have hn : nCh (assB a).length ≤ 8 := by unfold nCh; omega
  have e := sealL N hN key base (markV N key base (fullM m (assB a).length)) hm N (headB base (fullM m (assB a).length) ++ markV N key base (fullM m (assB a).length)) (assB a) 0 (by omega) (by omega) (by rw [List.length_append, headB_len, hm]; omega)
  rw [show ((0 : Nat) : Int) = 0 from rfl] at e
  rw [e, Option.bind_some, Option.bind_some]
  refine T.ret (.inl ⟨rfl, g, hk, hc, ?_⟩)
  unfold bundleB
  rw [List.append_assoc]
end Go.UK

