/- A part of the proof: what the functions of the program compute. -/
import Derived.Test.YtljnaeghnleipaaRC
namespace Go.UK
open Go Go.Proofs
set_option maxRecDepth 20000
set_option maxHeartbeats 1000000
set_option linter.all false
def headB (base : Vector Int 8) (m : S_api_Manifest) : List Int := [85, 77, 66, 49] ++ (base.toList ++ manB m)
theorem headB_len (base : Vector Int 8) (m : S_api_Manifest) : (headB base m).length = 47 := by unfold headB; simp [manB_len]
def markV (N : Nat) (key : Vector Int 32) (base : Vector Int 8) (m : S_api_Manifest) : List Int := sealV N key (nonV N base 0) (headB base m) []
theorem markV_len (N : Nat) (hN : 70000 ≤ N) (key : Vector Int 32) (base : Vector Int 8) (m : S_api_Manifest) : (markV N key base m).length = 16 := by
 unfold markV; rw [sealV_len N hN key _ _ (by simp)]; rfl
theorem markV_bytes (N : Nat) (hN : 70000 ≤ N) (key : Vector Int 32) (base : Vector Int 8) (m : S_api_Manifest) : bytesL (markV N key base m) := by
 unfold markV; exact sealV_bytes N hN key _ _ (by rw [headB_len]; omega) (by simp)
def preB (i n : Nat) : List Int := leB 2 (i : Int) ++ leB 2 (n : Int)
theorem preB_len (i n : Nat) : (preB i n).length = 4 := by unfold preB; simp [leB_len]
theorem preB_bytes (i n : Nat) : bytesL (preB i n) := (leB_bytes _ _).app (leB_bytes _ _)
def sealC (N : Nat) (key : Vector Int 32) (base : Vector Int 8) (mark : List Int) (i : Nat) (p : List Int) : List Int := sealV N key (nonV N base ((i + 1 : Nat) : Int)) (preB i p.length ++ mark) p
def chunkF (N : Nat) (key : Vector Int 32) (base : Vector Int 8) (mark : List Int) (i : Nat) (p : List Int) : List Int := preB i p.length ++ sealC N key base mark i p
theorem chunkF_len (N : Nat) (hN : 70000 ≤ N) (key : Vector Int 32) (base : Vector Int 8) (mark : List Int) (i : Nat) {p : List Int} (hp : p.length ≤ 65536) : (chunkF N key base mark i p).length = p.length + 20 := by
 unfold chunkF sealC; rw [List.length_append, preB_len, sealV_len N hN key _ _ hp]; omega
def bodyC (N : Nat) (key : Vector Int 32) (base : Vector Int 8) (mark : List Int) : Nat → Nat → List Int → List Int
 | 0, _, _ => []
 | c + 1, i, l => chunkF N key base mark i (l.take 256) ++ bodyC N key base mark c (i + 1) (l.drop 256)
def nCh (n : Nat) : Nat := (n + 255) / 256
theorem nCh_e (n : Nat) : chunksV (n : Int) = (nCh n : Int) := by unfold chunksV nCh; split <;> omega
theorem bodyC_len (N : Nat) (hN : 70000 ≤ N) (key : Vector Int 32) (base : Vector Int 8) (mark : List Int) : ∀ (c i : Nat) (l : List Int), (bodyC N key base mark c i l).length = (min l.length (256 * c)) + 20 * c
 | 0, _, _ => by simp [bodyC]
 | c + 1, i, l => by
  rw [bodyC, List.length_append, chunkF_len N hN key base mark i (by simp; omega), bodyC_len N hN key base mark c (i + 1), List.length_take, List.length_drop]
  omega
theorem sealR1 (N : Nat) (hN : 70000 ≤ N) (key : Vector Int 32) (base : Vector Int 8) (s mark q : List Int) (i : Nat) (p : List Int) (hm : mark.length = 16) (hi : i < 1000) (hp : p.length ≤ 256) (hs : s.length ≤ 100000) :
  p_bundle_Seal_R1 N s key base mark q (i : Int) p = some (s ++ chunkF N key base mark i p) := by
 unfold p_bundle_Seal_R1
 have e := put2 N (by omega) [] 2 (by decide) (by decide) (i : Int) (p.length : Int) ⟨by omega, by rw [show p256 2 = 65536 from rfl]; omega⟩ ⟨by omega, by rw [show p256 2 = 65536 from rfl]; omega⟩ (by simp)
 rw [U64_id (x := (p.length : Int)) (by omega) (by omega), letO_e, U64_id (x := (i : Int)) (by omega) (by omega), show p_codec_Put N [] 2 [(i : Int), (p.length : Int)] = _ from e, Option.bind_some, I64_s (by omega), nonP N (by omega), Option.bind_some]
 dsimp only
 rw [List.nil_append, show leB 2 (i : Int) ++ leB 2 (p.length : Int) = preB i p.length from rfl, concP N [preB i p.length, mark] (by simp) (by show 2 < N; omega) (by intro l hl; simp only [List.mem_cons, List.not_mem_nil, or_false] at hl; rcases hl with rfl | rfl; rw [preB_len]; omega; omega), Option.bind_some]
 have e2 : [preB i p.length, mark].flatten = preB i p.length ++ mark := by simp
 rw [e2, sealP N hN key _ _ p (by rw [List.length_append, preB_len]; omega) (by omega), Option.bind_some, appO1 (by omega) (by rw [preB_len]; omega), Option.bind_some]
 dsimp only
 rw [appO1 (by rw [List.length_append, preB_len]; omega) (by rw [sealV_len N hN key _ _ (by omega)]; omega), Option.bind_some, List.append_assoc]
 rfl
theorem take_min {α : Type} (l : List α) : l.take (min l.length 256) = l.take 256 := by
 by_cases h : l.length ≤ 256
 ·rw [Nat.min_eq_left h, List.take_length, List.take_of_length_le h]
 ·rw [Nat.min_eq_right (by omega)]
theorem drop_min {α : Type} (l : List α) : l.drop (min l.length 256) = l.drop 256 := by
 by_cases h : l.length ≤ 256
 ·rw [Nat.min_eq_left h, List.drop_length, List.drop_eq_nil_of_le h]
 ·rw [Nat.min_eq_right (by omega)]
theorem sealL (N : Nat) (hN : 70000 ≤ N) (key : Vector Int 32) (base : Vector Int 8) (mark : List Int) (hm : mark.length = 16) : ∀ (k : Nat) (s l : List Int) (i : Nat), nCh l.length < k → i + nCh l.length ≤ 100 → s.length + 300 * nCh l.length ≤ 100000 →
  p_bundle_chunks_1_for_bundle_Seal_R1_L1 N key base mark k s l (i : Int) = some (s ++ bodyC N key base mark (nCh l.length) i l, [])
 | 0, _, _, _, h, _, _ => by omega
 | k + 1, s, l, i, hk, hi, hs => by
  rw [p_bundle_chunks_1_for_bundle_Seal_R1_L1, letO_e]
  by_cases h : l.length = 0
  ·obtain rfl := List.eq_nil_of_length_eq_zero h
   rw [df (by simp), cond_false, show nCh ([] : List Int).length = 0 from rfl, bodyC, List.append_nil]
  ·have hn : nCh l.length = nCh (l.drop 256).length + 1 := by unfold nCh; rw [List.length_drop]; omega
   rw [dt (by omega), cond_true, show (256 : Int) = ((256 : Nat) : Int) from rfl, imin_nat, letO_e, slc3O_ok (by omega), Option.bind_some, take_min, sealR1 N hN key base s mark l i _ hm (by omega) (by simp; omega) (by omega), Option.bind_some, slcO_drop (by omega), Option.bind_some, drop_min, I64_s (by omega)]
   rw [sealL N hN key base mark hm k _ (l.drop 256) (i + 1) (by omega) (by omega) (by rw [List.length_append, chunkF_len N hN key base mark i (by simp; omega), List.length_take]; omega)]
   rw [hn, bodyC, List.append_assoc]
def bundleB (N : Nat) (key : Vector Int 32) (base : Vector Int 8) (m : S_api_Manifest) (p : List Int) : List Int :=
 headB base m ++ (markV N key base m ++ bodyC N key base (markV N key base m) (nCh p.length) 0 p)
theorem bundleB_len (N : Nat) (hN : 70000 ≤ N) (key : Vector Int 32) (base : Vector Int 8) (m : S_api_Manifest) (p : List Int) : (bundleB N key base m p).length = 63 + p.length + 20 * nCh p.length := by
 unfold bundleB
 rw [List.length_append, List.length_append, headB_len, markV_len N hN, bodyC_len N hN]
 unfold nCh
 omega
def fullM (m : S_api_Manifest) (n : Nat) : S_api_Manifest := S_api_Manifest.mk m.gId m.gKind m.gLabel m.gMasks m.gFrom m.gTo (n : Int) (nCh n : Int)
theorem capV_le (k : Int) : capV k ≤ 2048 := by unfold capV; split; decide; split; decide; split; decide; split <;> decide
theorem fullM_T {m : S_api_Manifest} (t : ManT m) {n : Nat} (h : n ≤ 2048) : ManT (fullM m n) :=
 ⟨t.id, t.kind, t.label, t.masks, t.fr, t.to, ⟨by show _ ≤ (n : Int); omega, by show (n : Int) ≤ _; omega⟩, ⟨by show _ ≤ (nCh n : Int); omega, by show (nCh n : Int) ≤ _; unfold nCh; omega⟩⟩
theorem GoodA.len {N : Nat} {a : S_api_Asset} (g : GoodA N a) : (assB a).length ≤ 2048 := by have := g.cap; have := capV_le a.gKind; omega
theorem sealT (N : Nat) (hN : 70000 ≤ N) (key : Vector Int 32) (base : Vector Int 8) (m : S_api_Manifest) (a : S_api_Asset) (t : ManT m) (hA : AssL a) :
  T (p_bundle_Seal N key base m a) (fun r => (r.2 = 0 ∧ GoodA N a ∧ m.gKind = a.gKind ∧ mchkV (fullM m (assB a).length) = 0 ∧ r.1 = bundleB N key base (fullM m (assB a).length) (assB a)) ∨ (r.2 ≠ 0 ∧ r.1 = [] ∧ ¬ (GoodA N a ∧ m.gKind = a.gKind ∧ mchkV (fullM m (assB a).length) = 0))) := by
 unfold p_bundle_Seal
 obtain ⟨r1, e1, h1⟩ := encodeT N (by omega) a hA
 rw [e1, Option.bind_some]
 rcases h1 with ⟨c, g, h⟩ | ⟨c, _, h⟩
 rotate_left
 ·rw [show (r1.2 != 0) = true by simpa using c, cond_true]
  exact T.ret (.inr ⟨c, rfl, fun q => h q.1⟩)
 ·rw [c, show ((0 : Int) != 0) = false from rfl, cond_false, h]
  have hl := g.len
  by_cases hk : m.gKind = a.gKind
  rotate_left
  ·rw [show (m.gKind != a.gKind) = true by simpa using hk, cond_true]
   exact T.ret (.inr ⟨by decide, rfl, fun q => hk q.2.1⟩)
  rw [show (m.gKind != a.gKind) = false by simpa using hk, cond_false, chunksP N ⟨by omega, by omega⟩, Option.bind_some, nCh_e]
  have e3 := mencP N (by omega) (fullM m (assB a).length) (fullM_T t hl)
  rw [show p_manifest_Encode N (S_api_Manifest.mk m.gId m.gKind m.gLabel m.gMasks m.gFrom m.gTo ((assB a).length : Int) (nCh (assB a).length : Int)) = _ from e3, Option.bind_some]
  by_cases hc : mchkV (fullM m (assB a).length) = 0
  rotate_left
  ·rw [if_neg hc]
   dsimp only
   rw [show (mchkV (fullM m (assB a).length) != 0) = true by simpa using hc, cond_true]
   exact T.ret (.inr ⟨hc, rfl, fun q => hc q.2.2⟩)
  rw [if_pos hc]
  dsimp only
  rw [show ((0 : Int) != 0) = false from rfl, cond_false, show slcO base.toList 0 8 = some base.toList from slcV (m := 8) _, Option.bind_some]
  rw [concP N [[85, 77, 66, 49], base.toList, manB (fullM m (assB a).length)] (by simp) (by show 3 < N; omega) (by intro l hl; simp only [List.mem_cons, List.not_mem_nil, or_false] at hl; rcases hl with rfl | rfl | rfl; simp; simp; rw [manB_len]; omega), Option.bind_some]
  rw [show ([[85, 77, 66, 49], base.toList, manB (fullM m (assB a).length)] : List (List Int)).flatten = headB base (fullM m (assB a).length) by unfold headB; simp, nonP N (by omega), Option.bind_some]
  rw [sealP N hN key _ _ [] (by rw [headB_len]; omega) (by simp), Option.bind_some]
  dsimp only
  rw [show sealV N key (nonV N base 0) (headB base (fullM m (assB a).length)) [] = markV N key base (fullM m (assB a).length) from rfl]
  have hm := markV_len N hN key base (fullM m (assB a).length)
  rw [appO1 (by rw [headB_len]; omega) (by omega), Option.bind_some]
  rw [show p_bundle_chunks N (assB a) = some () from rfl, Option.bind_some]
  unfold p_bundle_chunks_1_for_bundle_Seal_R1
  have hn : nCh (assB a).length ≤ 8 := by unfold nCh; omega
  have e := sealL N hN key base (markV N key base (fullM m (assB a).length)) hm N (headB base (fullM m (assB a).length) ++ markV N key base (fullM m (assB a).length)) (assB a) 0 (by omega) (by omega) (by rw [List.length_append, headB_len, hm]; omega)
  rw [show ((0 : Nat) : Int) = 0 from rfl] at e
  rw [e, Option.bind_some, Option.bind_some]
  refine T.ret (.inl ⟨rfl, g, hk, hc, ?_⟩)
  unfold bundleB
  rw [List.append_assoc]
end Go.UK
namespace Go.UK
open Go Go.Proofs
set_option maxRecDepth 20000
set_option maxHeartbeats 1000000
set_option linter.all false
theorem toB' {x : Int} (h : isB x) : ((UInt8.ofNat x.toNat).toNat : Int) = x := by
 obtain ⟨h0, h1⟩ := h
 have e : (UInt8.ofNat x.toNat).toNat = x.toNat % 256 := UInt8.toNat_ofNat'
 rw [e]; omega
theorem strO_inj : ∀ {a b : List Int}, bytesL a → bytesL b → (a.map fun x => UInt8.ofNat x.toNat) = (b.map fun x => UInt8.ofNat x.toNat) → a = b
 | [], [], _, _, _ => rfl
 | [], b :: l, _, _, h => by simp at h
 | a :: l, [], _, _, h => by simp at h
 | a :: l, b :: r, ha, hb, h => by
  simp only [List.map_cons, List.cons.injEq] at h
  have h1 := congrArg (fun u : UInt8 => (u.toNat : Int)) h.1
  rw [toB' (ha a (by simp)), toB' (hb b (by simp))] at h1
  rw [h1, strO_inj (fun x hx => ha x (by simp [hx])) (fun x hx => hb x (by simp [hx])) h.2]
theorem equalP (N : Nat) {a b : List Int} (ha : bytesL a) (hb : bytesL b) : p_bytes_Equal N a b = some (decide (a = b)) := by
 unfold p_bytes_Equal
 rw [letO_e]
 congr 1
 rw [ByteArray.toList_eq, ByteArray.toList_eq, Bool.eq_iff_iff, beq_iff_eq, decide_eq_true_eq]
 unfold strO
 dsimp only
 exact ⟨strO_inj ha hb, fun h => by rw [h]⟩
theorem headB_inj {base base' : Vector Int 8} {m m' : S_api_Manifest} (r : ManR m) (r' : ManR m') (h : headB base m = headB base' m') : base = base' ∧ m = m' := by
 unfold headB at h
 have h := List.append_cancel_left h
 obtain ⟨h1, h2⟩ := List.append_inj h (by simp)
 exact ⟨Vector.toList_inj.1 h1, manB_inj r r' h2⟩
theorem headB_bytes {base : Vector Int 8} {m : S_api_Manifest} (hb : vbytes base) (r : ManR m) : bytesL (headB base m) := by
 unfold headB
 refine bytesL.app ?_ (hb.app (manB_bytes r.masks))
 intro x hx
 simp only [List.mem_cons, List.not_mem_nil, or_false] at hx
 rcases hx with rfl | rfl | rfl | rfl <;> exact ⟨by decide, by decide⟩
theorem cut5 (a b c d e : List Int) (ha : a.length = 4) (hb : b.length = 8) (hc : c.length = 35) (hd : d.length = 16) :
  (a ++ (b ++ (c ++ (d ++ e)))).take 4 = a ∧ ((a ++ (b ++ (c ++ (d ++ e)))).take 12).drop 4 = b ∧ ((a ++ (b ++ (c ++ (d ++ e)))).take 47).drop 12 = c ∧ (a ++ (b ++ (c ++ (d ++ e)))).take 47 = a ++ (b ++ c) ∧ ((a ++ (b ++ (c ++ (d ++ e)))).take 63).drop 47 = d ∧ (a ++ (b ++ (c ++ (d ++ e)))).drop 63 = e := by
 have ta : ∀ n, 4 ≤ n → a.take n = a := fun n h => List.take_of_length_le (by omega)
 have tb : ∀ n, 8 ≤ n → b.take n = b := fun n h => List.take_of_length_le (by omega)
 have tc : ∀ n, 35 ≤ n → c.take n = c := fun n h => List.take_of_length_le (by omega)
 have td : ∀ n, 16 ≤ n → d.take n = d := fun n h => List.take_of_length_le (by omega)
 have da : ∀ n, 4 ≤ n → a.drop n = [] := fun n h => List.drop_eq_nil_of_le (by omega)
 have db : ∀ n, 8 ≤ n → b.drop n = [] := fun n h => List.drop_eq_nil_of_le (by omega)
 have dc : ∀ n, 35 ≤ n → c.drop n = [] := fun n h => List.drop_eq_nil_of_le (by omega)
 have dd : ∀ n, 16 ≤ n → d.drop n = [] := fun n h => List.drop_eq_nil_of_le (by omega)
 refine ⟨?_, ?_, ?_, ?_, ?_, ?_⟩ <;> simp [List.take_append, List.drop_append, ha, hb, hc, hd, ta, tb, tc, td, da, db, dc, dd]
def HeadAt (N : Nat) (key : Vector Int 32) (base : Vector Int 8) (m : S_api_Manifest) (b : List Int) : Prop :=
 vbytes base ∧ ManR m ∧ mchkV m = 0 ∧ b = headB base m ++ (markV N key base m ++ b.drop 63)
theorem HeadAt.len {N : Nat} (hN : 70000 ≤ N) {key : Vector Int 32} {base : Vector Int 8} {m : S_api_Manifest} {b : List Int} (h : HeadAt N key base m b) : 63 ≤ b.length := by
 have := congrArg List.length h.2.2.2
 rw [List.length_append, List.length_append, headB_len, markV_len N hN] at this
 omega
theorem HeadAt.parts {N : Nat} (hN : 70000 ≤ N) {key : Vector Int 32} {base : Vector Int 8} {m : S_api_Manifest} {b : List Int} (h : HeadAt N key base m b) :
  b.take 4 = [85, 77, 66, 49] ∧ (b.take 12).drop 4 = base.toList ∧ (b.take 47).drop 12 = manB m ∧ b.take 47 = headB base m ∧ (b.take 63).drop 47 = markV N key base m := by
 have c := cut5 [85, 77, 66, 49] base.toList (manB m) (markV N key base m) (b.drop 63) rfl (by simp) (manB_len m) (markV_len N hN key base m)
 have e : [85, 77, 66, 49] ++ (base.toList ++ (manB m ++ (markV N key base m ++ b.drop 63))) = b := by
  conv => rhs; rw [h.2.2.2]
  unfold headB
  simp only [List.append_assoc]
 rw [e] at c
 exact ⟨c.1, c.2.1, c.2.2.1, c.2.2.2.1, c.2.2.2.2.1⟩
theorem HeadAt.of {N : Nat} (hN : 70000 ≤ N) (key : Vector Int 32) {base : Vector Int 8} {m : S_api_Manifest} (hb : vbytes base) (r : ManR m) (h0 : mchkV m = 0) (x : List Int) : HeadAt N key base m (headB base m ++ (markV N key base m ++ x)) ∧ (headB base m ++ (markV N key base m ++ x)).drop 63 = x := by
 have e : (headB base m ++ (markV N key base m ++ x)).drop 63 = x := by
  rw [← List.append_assoc, List.drop_left' (by rw [List.length_append, headB_len, markV_len N hN])]
 exact ⟨⟨hb, r, h0, by rw [e]⟩, e⟩
end Go.UK
namespace Go.UK
open Go Go.Proofs
set_option maxRecDepth 20000
set_option maxHeartbeats 1000000
set_option linter.all false
end Go.UK
namespace Go.UK
open Go Go.Proofs
set_option maxRecDepth 20000
set_option maxHeartbeats 1000000
set_option linter.all false
structure BunAt (N : Nat) (key : Vector Int 32) (base : Vector Int 8) (m : S_api_Manifest) (a : S_api_Asset) (b : List Int) : Prop where
 hbase : vbytes base
 hm : ManR m
 chk : mchkV m = 0
 good : GoodA N a
 kind : a.gKind = m.gKind
 size : ((assB a).length : Int) = m.gSize
 eq : b = bundleB N key base m (assB a)
theorem BunAt.head {N : Nat} (hN : 70000 ≤ N) {key : Vector Int 32} {base : Vector Int 8} {m : S_api_Manifest} {a : S_api_Asset} {b : List Int} (h : BunAt N key base m a b) : HeadAt N key base m b := by
 rw [h.eq]
 unfold bundleB
 exact (HeadAt.of hN key h.hbase h.hm h.chk _).1
theorem assB_bytes {a : S_api_Asset} (h : OwnG a) : bytesL (assB a) := by
 unfold assB
 rcases h with ⟨k, _⟩ | ⟨k, _⟩ | ⟨k, _⟩ | ⟨k, _⟩
 ·rw [if_pos k]; exact (leB_bytes _ _).app ((leB_bytes _ _).app ((flat_bytes ptB_bytes _).app ((flat_bytes uvB_bytes _).app (flat_bytes (trB_bytes 1) _))))
 ·rw [if_neg (by omega), if_pos k]; exact (leB_bytes _ _).app (flat_bytes (trB_bytes 1) _)
 ·rw [if_neg (by omega), if_neg (by omega), if_pos k]; exact (leB_bytes _ _).app ((trB_bytes 2 _).app (leB_bytes _ _))
 ·rw [if_neg (by omega), if_neg (by omega), if_neg (by omega)]; exact (leB_bytes _ _).app ((trB_bytes 4 _).app ((ptB_bytes _).app ((ptB_bytes _).app (ptB_bytes _))))
end Go.UK
namespace Go.UK
open Go Go.Proofs
set_option maxRecDepth 20000
set_option maxHeartbeats 1000000
set_option linter.all false
theorem fewP (N : Nat) (a : S_api_Asset) : T (p_umbralaw16_few N a) AssL := by
 unfold p_umbralaw16_few p_umbralaw13_Few
 simp only [letO_e]
 rw [show (70 : Int) = ((70 : Nat) : Int) from rfl, show (260 : Int) = ((260 : Nat) : Int) from rfl, slcO_min, Option.bind_some, slcO_min, Option.bind_some, slcO_min, Option.bind_some, Option.bind_some, slcO_min, Option.bind_some]
 exact T.ret ⟨by dsimp only; rw [List.length_take]; omega, by dsimp only; rw [List.length_take]; omega, by dsimp only; rw [List.length_take]; omega, by dsimp only; rw [List.length_take]; omega⟩
theorem OwnG.t {a : S_api_Asset} (h : OwnG a) (k : a.gKind = 2) : TexG a.gTexture := by
 rcases h with ⟨o, _⟩ | ⟨_, o⟩ | ⟨o, _⟩ | ⟨o, _⟩
 ·rw [k] at o; cases o
 ·exact o
 all_goals (rw [k] at o; cases o)
theorem OwnG.l {a : S_api_Asset} (h : OwnG a) (k : a.gKind = 4) : LigG a.gLight := by
 rcases h with ⟨o, _⟩ | ⟨o, _⟩ | ⟨o, _⟩ | ⟨_, o⟩
 ·rw [k] at o; cases o
 ·rw [k] at o; cases o
 ·rw [k] at o; cases o
 ·exact o
theorem bodyC_bytes (N : Nat) (hN : 70000 ≤ N) (key : Vector Int 32) (base : Vector Int 8) (mark : List Int) (hm : mark.length = 16) : ∀ (c i : Nat) (l : List Int), bytesL (bodyC N key base mark c i l)
 | 0, _, _ => bytes_nil
 | c + 1, i, l => by
  rw [bodyC]
  refine bytesL.app ?_ (bodyC_bytes N hN key base mark hm c (i + 1) _)
  unfold chunkF sealC
  exact (preB_bytes _ _).app (sealV_bytes N hN key _ _ (by rw [List.length_append, preB_len]; omega) (by simp; omega))
theorem bundleB_bytes {N : Nat} (hN : 70000 ≤ N) (key : Vector Int 32) {base : Vector Int 8} (hb : vbytes base) {m : S_api_Manifest} (r : ManR m) (p : List Int) : bytesL (bundleB N key base m p) := by
 unfold bundleB
 exact (headB_bytes hb r).app ((markV_bytes N hN key base m).app (bodyC_bytes N hN key base _ (markV_len N hN key base m) _ _ _))
theorem BunAt.len {N : Nat} (hN : 70000 ≤ N) {key : Vector Int 32} {base : Vector Int 8} {m : S_api_Manifest} {a : S_api_Asset} {b : List Int} (h : BunAt N key base m a b) : (b.length : Int) = 63 + m.gSize + 20 * (nCh m.gSize.toNat : Int) := by
 rw [h.eq, bundleB_len N hN, ← h.size, Int.toNat_natCast]
 omega
theorem BunAt.short {N : Nat} (hN : 70000 ≤ N) {key : Vector Int 32} {base : Vector Int 8} {m : S_api_Manifest} {a : S_api_Asset} {b : List Int} (h : BunAt N key base m a b) : b.length ≤ 2300 := by
 have := h.good.len
 rw [h.eq, bundleB_len N hN]
 unfold nCh
 omega
theorem BunAt.bytes {N : Nat} (hN : 70000 ≤ N) {key : Vector Int 32} {base : Vector Int 8} {m : S_api_Manifest} {a : S_api_Asset} {b : List Int} (h : BunAt N key base m a b) : bytesL b := by
 rw [h.eq]; exact bundleB_bytes hN key h.hbase h.hm _
theorem BunAt.body {N : Nat} (hN : 70000 ≤ N) {key : Vector Int 32} {base : Vector Int 8} {m : S_api_Manifest} {a : S_api_Asset} {b : List Int} (h : BunAt N key base m a b) : b.drop 63 = bodyC N key base (markV N key base m) (nCh (assB a).length) 0 (assB a) := by
 conv => lhs; rw [h.eq]
 exact (HeadAt.of hN key h.hbase h.hm h.chk _).2
theorem BunAt.same {N : Nat} (hN : 70000 ≤ N) {key : Vector Int 32} {base base' : Vector Int 8} {m m' : S_api_Manifest} {a a' : S_api_Asset} {b b' : List Int} (h : BunAt N key base m a b) (h' : BunAt N key base' m' a' b') (e : b.take 47 = b'.take 47) : m = m' ∧ b.length = b'.length := by
 obtain ⟨_, rfl⟩ := headB_inj h.hm h'.hm (by rw [← ((h.head hN).parts hN).2.2.2.1, e, ((h'.head hN).parts hN).2.2.2.1])
 refine ⟨rfl, ?_⟩
 have := h.len hN
 have := h'.len hN
 omega
theorem ManR.t {m : S_api_Manifest} (r : ManR m) : ManT m :=
 ⟨r.id, by have := r.kind; exact ⟨by omega, by omega⟩, r.label, r.masks, r.fr, r.to, by have := r.size; exact ⟨by omega, by omega⟩, by have := r.chunks; exact ⟨by omega, by omega⟩⟩
theorem sealA (N : Nat) (hN : 70000 ≤ N) (key : Vector Int 32) (base : Vector Int 8) (hb : vbytes base) (m : S_api_Manifest) (a : S_api_Asset) (t : ManT m) (hA : AssL a) :
  T (p_bundle_Seal N key base m a) (fun r => (r.2 = 0 ∧ GoodA N a ∧ BunAt N key base (fullM m (assB a).length) a r.1) ∨ (r.2 ≠ 0 ∧ r.1 = [] ∧ ¬ (GoodA N a ∧ m.gKind = a.gKind ∧ mchkV (fullM m (assB a).length) = 0))) := by
 refine (sealT N hN key base m a t hA).mono fun r h => ?_
 rcases h with ⟨h1, h2, h3, h4, h5⟩ | h
 ·exact .inl ⟨h1, h2, hb, (fullM_T t h2.len).r h4, h4, h2, h3.symm, rfl, h5⟩
 ·exact .inr h
end Go.UK
namespace Go.UK
open Go Go.Proofs
set_option maxRecDepth 20000
set_option maxHeartbeats 1000000
set_option linter.all false
end Go.UK
namespace Go.UK
open Go Go.Proofs
set_option maxRecDepth 20000
set_option maxHeartbeats 1000000
set_option linter.all false
theorem slcN {α : Type} {l : List α} {lo hi : Nat} (h1 : lo ≤ hi) (h2 : hi ≤ l.length) : slcO l (lo : Int) (hi : Int) = some ((l.drop lo).take (hi - lo)) := by
 rw [slcO_ok (by omega) (by omega) (by omega), Int.toNat_natCast, Int.toNat_natCast, List.drop_take]
theorem i64N {x : Int} {n : Nat} (h : x = (n : Int)) (hn : n < 1000000000) : I64 x = (n : Int) := by rw [h, I64_id (by omega) (by omega)]
theorem partsL (N : Nat) (hN : 70000 ≤ N) (s : S_umbralaw16_Sealed) (m : S_api_Manifest) (a : S_api_Asset) (r2 r3 : List Int × Int) (h : BunAt N s.gKey s.gBase m a r2.1) (h3 : r3.1 = assB a) :
  ∀ (k i o rem : Nat), rem = (assB a).length - 256 * i → 256 * i ≤ (assB a).length + 255 → o + rem + 20 * nCh rem = r2.1.length → i + nCh rem = nCh (assB a).length → 63 ≤ o → r2.1.drop o = bodyC N s.gKey s.gBase (markV N s.gKey s.gBase m) (nCh rem) i ((assB a).drop (256 * i)) → nCh rem < k →
   p_umbralaw16_BundleParts_L1 N r3 r2 s k (o : Int) (i : Int) = some (Sum.inl (r2.1.length : Int))
 | 0, _, _, _, _, _, _, _, _, _, h => by omega
 | k + 1, i, o, rem, hr, hi, ho, hc, h63, hd, hk => by
  have hl := h.good.len
  have hs := h.short hN
  have hnc : nCh (assB a).length ≤ 8 := by unfold nCh; omega
  rw [p_umbralaw16_BundleParts_L1, h3, chunksP N ⟨by omega, by omega⟩, Option.bind_some, nCh_e]
  by_cases h0 : rem = 0
  ·subst h0
   rw [show nCh 0 = 0 from rfl] at ho hc
   rw [df (by omega), cond_false]
   congr 2
   omega
  have hn : nCh rem = nCh (rem - 256) + 1 := by unfold nCh; omega
  have hlt : 256 * i < (assB a).length := by omega
  have e1 : I64 (256 * (i : Int)) = ((256 * i : Nat) : Int) := i64N (by omega) (by omega)
  have e2 : I64 (((assB a).length : Int) - ((256 * i : Nat) : Int)) = ((rem : Nat) : Int) := i64N (by omega) (by omega)
  have e3 : I64 ((r2.1.length : Int) - (o : Int)) = ((r2.1.length - o : Nat) : Int) := i64N (by omega) (by omega)
  rw [dt (by omega), cond_true, e1, e2, letO_e, e3, letO_e, show (256 : Int) = ((256 : Nat) : Int) from rfl, imin_nat]
  generalize hq : min 256 rem = n
  have e4 : I64 ((n : Int) + 20) = ((n + 20 : Nat) : Int) := i64N (by omega) (by omega)
  rw [e4, letO_e, df (by omega), cond_false, I64_s (by omega), nonP N (by omega), Option.bind_some]
  have e5 : I64 ((o : Int) + 4) = ((o + 4 : Nat) : Int) := i64N (by omega) (by omega)
  have e6 : I64 ((o : Int) + 20) = ((o + 20 : Nat) : Int) := i64N (by omega) (by omega)
  have e7 : I64 (((o + 20 : Nat) : Int) + (n : Int)) = ((o + 20 + n : Nat) : Int) := i64N (by omega) (by omega)
  have e8 : I64 (((256 * i : Nat) : Int) + (n : Int)) = ((256 * i + n : Nat) : Int) := i64N (by omega) (by omega)
  have e9 : I64 ((o : Int) + ((n + 20 : Nat) : Int)) = ((o + (n + 20) : Nat) : Int) := i64N (by omega) (by omega)
  have hp : ((assB a).drop (256 * i)).take 256 = ((assB a).drop (256 * i)).take n := by
   rw [← hq]
   have := take_min ((assB a).drop (256 * i))
   rw [List.length_drop, ← hr, Nat.min_comm] at this
   exact this.symm
  have hpl : (((assB a).drop (256 * i)).take n).length = n := by rw [List.length_take, List.length_drop]; omega
  have hpb : bytesL (((assB a).drop (256 * i)).take n) := ((assB_bytes h.good.own).drop _).take _
  rw [hn, bodyC, hp] at hd
  have hcl := chunkF_len N hN s.gKey s.gBase (markV N s.gKey s.gBase m) i (p := ((assB a).drop (256 * i)).take n) (by omega)
  rw [hpl] at hcl
  have hd2 : (r2.1.drop o).drop (n + 20) = bodyC N s.gKey s.gBase (markV N s.gKey s.gBase m) (nCh (rem - 256)) (i + 1) (((assB a).drop (256 * i)).drop 256) := by
   rw [hd, List.drop_left' hcl]
  unfold chunkF at hd
  rw [hpl, List.append_assoc] at hd
  have hs4 : (r2.1.drop o).take 4 = preB i n := by rw [hd, List.take_left' (preB_len _ _)]
  have hsl : (sealC N s.gKey s.gBase (markV N s.gKey s.gBase m) i (((assB a).drop (256 * i)).take n)).length = n + 16 := by
   unfold sealC; rw [sealV_len N hN _ _ _ (by omega), hpl]
  have hs16 : (r2.1.drop (o + 4)).take (n + 16) = sealC N s.gKey s.gBase (markV N s.gKey s.gBase m) i (((assB a).drop (256 * i)).take n) := by
   rw [← List.drop_drop, hd, List.drop_left' (preB_len _ _), List.take_left' hsl]
  have hmk : (r2.1.drop 47).take 16 = markV N s.gKey s.gBase m := by
   have := ((h.head hN).parts hN).2.2.2.2
   rw [List.drop_take] at this
   exact this
  rw [e5, slcN (lo := o) (hi := o + 4) (by omega) (by omega), Option.bind_some, show o + 4 - o = 4 by omega, hs4, appO1 (by simp) (by rw [preB_len]; omega), Option.bind_some, show (47 : Int) = ((47 : Nat) : Int) from rfl, show (63 : Int) = ((63 : Nat) : Int) from rfl, slcN (lo := 47) (hi := 63) (by omega) (by omega), Option.bind_some, hmk, List.nil_append, appO1 (by rw [preB_len]; omega) (by rw [markV_len N hN]; omega), Option.bind_some, e6, e7, letO_e, slcN (lo := o + 4) (hi := o + 20 + n) (by omega) (by omega), Option.bind_some, show o + 20 + n - (o + 4) = n + 16 by omega, hs16]
  unfold sealC
  rw [hpl, openSeal N hN s.gKey _ _ _ hpb (by rw [List.length_append, preB_len, markV_len N hN]; omega) (by omega), Option.bind_some]
  dsimp only
  rw [show ((0 : Int) != 0) = false from rfl, cond_false, e8, letO_e, slcN (lo := 256 * i) (hi := 256 * i + n) (by omega) (by omega), Option.bind_some, show 256 * i + n - 256 * i = n by omega, equalP N hpb hpb, Option.bind_some, dt rfl, show (!true) = false from rfl, Option.bind_some, cond_false, letO_e, e9]
  have := partsL N hN s m a r2 r3 h h3 k (i + 1) (o + (n + 20)) (rem - 256) (by omega) (by omega) (by omega) (by omega) (by omega) (by rw [← List.drop_drop, hd2, List.drop_drop, show 256 * i + 256 = 256 * (i + 1) by omega]) (by omega)
  exact this
theorem bundlePartsT (N : Nat) (hN : 70000 ≤ N) (hw : p_umbralaw16_works N = some true) (s : S_umbralaw16_Sealed) (a0 : S_api_Asset) (hb : vbytes s.gBase) (t : ManT s.gM) : p_umbralaw16_BundleParts N s a0 = some true := by
 unfold p_umbralaw16_BundleParts
 obtain ⟨a, e1, hA⟩ := fewP N a0
 rw [e1, Option.bind_some]
 obtain ⟨r2, e2, h2⟩ := sealA N hN s.gKey s.gBase hb s.gM a t hA
 obtain ⟨r3, e3, h3⟩ := encodeT N (by omega) a hA
 rw [e2, Option.bind_some, e3, Option.bind_some, hw]
 rcases h2 with ⟨h1, g, h⟩ | ⟨h1, h, _⟩
 rotate_left
 ·rw [show (r2.2 != 0) = true by simpa using h1, cond_true]
  rfl
 rcases h3 with ⟨k1, _, k3⟩ | ⟨_, _, k⟩
 rotate_left
 ·exact absurd g k
 have hlen := (h.head hN).len hN
 obtain ⟨q1, q2, q3, q4, q5⟩ := (h.head hN).parts hN
 have hs := h.short hN
 rw [show (r2.2 != 0) = false by rw [h1]; rfl, cond_false, letO_e, df (by omega), k1, show ((0 : Int) != 0) = false from rfl, cond_false, letO_e, cond_false, show (4 : Int) = ((4 : Nat) : Int) from rfl, slcO_take (by omega), Option.bind_some, q1, letO_e]
 rw [show (!(ByteArray.toList (strO [85, 77, 66, 49]) == ByteArray.toList (ByteArray.mk #[85, 77, 66, 49]))) = false by rw [show strO [85, 77, 66, 49] = ByteArray.mk #[85, 77, 66, 49] from rfl]; simp, Option.bind_some, cond_false, nonP N (by omega), Option.bind_some]
 rw [show (47 : Int) = ((47 : Nat) : Int) from rfl, slcO_take (by omega), Option.bind_some, show (63 : Int) = ((63 : Nat) : Int) from rfl, slcN (lo := 47) (hi := 63) (by omega) (by omega), Option.bind_some, q4]
 rw [List.drop_take] at q5
 rw [show 63 - 47 = 16 from rfl] at q5 ⊢
 rw [q5]
 have e4 : p_aead_Open N s.gKey (nonV N s.gBase 0) (headB s.gBase (fullM s.gM (assB a).length)) (markV N s.gKey s.gBase (fullM s.gM (assB a).length)) = some ([], 0) := openSeal N hN _ _ _ [] bytes_nil (by rw [headB_len]; omega) (by simp)
 rw [e4, Option.bind_some]
 dsimp only
 rw [show ((0 : Int) != 0) = false from rfl, cond_false]
 have hnc : nCh (assB a).length ≤ 8 := by have := g.len; unfold nCh; omega
 have hlb : r2.1.length = 63 + (assB a).length + 20 * nCh (assB a).length := by rw [h.eq, bundleB_len N hN]
 have hl := partsL N hN s _ a r2 r3 h k3 N 0 63 (assB a).length (by omega) (by omega) (by omega) (by omega) (by omega) (by rw [h.body hN]; rfl) (by omega)
 rw [show ((0 : Nat) : Int) = 0 from rfl] at hl
 rw [hl, Option.bind_some]
 unfold sumC
 dsimp only
 rw [letO_e, show ((r2.1.length : Int) == (r2.1.length : Int)) = true by simp, cond_true]
 rfl
end Go.UK
namespace Go.UK
open Go Go.Proofs
set_option maxRecDepth 20000
set_option linter.all false
theorem wfB {x : Int} (h : (Lit.int .u8 x).wf = true) : isB x := by
 simp [Lit.wf, IntKind.min, IntKind.max, IntKind.signed, IntKind.bits] at h
 unfold isB; omega
theorem wfW {x : Int} (h : (Lit.int .u32 x).wf = true) : isW x := by
 simp [Lit.wf, IntKind.min, IntKind.max, IntKind.signed, IntKind.bits] at h
 unfold isW; omega
theorem wfU {x : Int} (h : (Lit.int .u64 x).wf = true) : isU x := by
 simp [Lit.wf, IntKind.min, IntKind.max, IntKind.signed, IntKind.bits] at h
 unfold isU; omega
theorem wfV {m : Nat} {v : Vector Int m} (h : ∀ a ∈ v.toList, (Lit.int .u8 a).wf = true) : vbytes v := fun a ha => wfB (h a ha)
end Go.UK
