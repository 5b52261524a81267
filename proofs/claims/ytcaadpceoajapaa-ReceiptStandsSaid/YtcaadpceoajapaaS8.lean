/- A part of the proof: what the functions of the program compute. -/
import Derived.Test.YtcaadpceoajapaaS7
namespace Go.UK
open Go Go.Proofs
set_option maxRecDepth 20000
set_option maxHeartbeats 1000000
set_option linter.all false
/-! ### arrays as lists -/
theorem vec_range {m : Nat} (v : Vector Int m) : (List.range m).flatMap (fun i => [v.toList.getD i 0]) = v.toList := by
  rw [flatMap_single]
  apply List.ext_getElem?
  intro i
  rw [List.getElem?_map]
  by_cases h : i < m
  · rw [List.getElem?_range h, get_getD (by simp; omega)]; rfl
  · rw [List.getElem?_eq_none (by simp; omega), List.getElem?_eq_none (by simp; omega)]; rfl
theorem loopVecApp {m : Nat} (hm : m ≤ 1000) (v : Vector Int m) (F : Nat → List Int → Int → Option (List Int)) (h1 : ∀ k s i, i < m → s.length ≤ 10000000000000 + 1000 → F (k + 1) s (i : Int) = F k (s ++ [v.toList.getD i 0]) (I64 ((i : Int) + 1))) (h2 : ∀ k s, F (k + 1) s (m : Int) = some s)
    {N : Nat} (hN : m < N) {s : List Int} (hs : s.length ≤ 10000000000000) : F N s 0 = some (s ++ v.toList) := by
  have := loopFlat0 m (by omega) (fun i => [v.toList.getD i 0]) (fun s i => s.length ≤ 10000000000000 + i) F (by intro s i hi hs; simp; omega) (fun k s i hi hs => h1 k s i hi (by omega)) h2 hN (s := s) (by omega)
  rw [this, vec_range]
theorem slcV {m : Nat} (v : Vector Int m) : slcO v.toList 0 (m : Int) = some v.toList := by
  rw [slcO_ok (by omega) (by omega) (by simp)]
  simp [List.take_of_length_le]
theorem slcV32 (v : Vector Int 32) : slcO v.toList 0 32 = some v.toList := slcV v
theorem slcV64 (v : Vector Int 64) : slcO v.toList 0 64 = some v.toList := slcV v
def vbytes {m : Nat} (v : Vector Int m) : Prop := bytesL v.toList
theorem bytesR (N : Nat) (hN : 32 < N) (v : Vector Int 32) : p_umbraref35_Bytes N v = some v.toList := by
  unfold p_umbraref35_Bytes
  rw [loopVecApp (by decide) v (p_umbraref35_Bytes_L1 N v) (fun k s i hi hs => by rw [p_umbraref35_Bytes_L1, dt (show (i : Int) < 32 by omega), cond_true, idx_D (by simp; omega), Option.bind_some, appO_ok (by simp; omega), Option.bind_some]) (fun k s => by rw [p_umbraref35_Bytes_L1, df (by omega), cond_false]) hN (s := []) (by simp), Option.bind_some, List.nil_append]
/-! ### a sum with a key -/
def keyV (key : List Int) : List Int := if 64 < key.length then (shaV key).toList else key
theorem keyV_len (key : List Int) : (keyV key).length ≤ 64 := by
  unfold keyV
  split
  · simp
  · omega
theorem keyV_bytes {key : List Int} (h : bytesL key) : bytesL (keyV key) := by unfold keyV; split; exact shaV_bytes _; exact h
def padK (key : List Int) : List Int := keyV key ++ List.replicate (64 - (keyV key).length) 0
theorem padK_len (key : List Int) : (padK key).length = 64 := by have := keyV_len key; unfold padK; simp; omega
theorem padK_bytes {key : List Int} (h : bytesL key) : bytesL (padK key) := (keyV_bytes h).app (by intro x hx; have := List.eq_of_mem_replicate hx; subst this; exact ⟨by decide, by decide⟩)
def innerV (key : List Int) : List Int := (padK key).map (fun x => bxor .u8 x 54)
def outerV (key : List Int) : List Int := (padK key).map (fun x => bxor .u8 x 92)
theorem inner_bytes (key : List Int) : bytesL (innerV key) := by intro x hx; obtain ⟨y, _, rfl⟩ := List.mem_map.1 hx; exact U8_b _
theorem outer_bytes (key : List Int) : bytesL (outerV key) := by intro x hx; obtain ⟨y, _, rfl⟩ := List.mem_map.1 hx; exact U8_b _
theorem inner_len (key : List Int) : (innerV key).length = 64 := by unfold innerV; rw [List.length_map, padK_len]
theorem outer_len (key : List Int) : (outerV key).length = 64 := by unfold outerV; rw [List.length_map, padK_len]
def macV (key msg : List Int) : Vector Int 32 := shaV (outerV key ++ (shaV (innerV key ++ msg)).toList)
theorem macV_bytes (key msg : List Int) : vbytes (macV key msg) := shaV_bytes _
theorem flat1 (m : List Int) : [m].flatten = m := by simp
theorem shaP1 (N : Nat) (hN : 100 < N) (m : List Int) (hm : bytesL m) (hl : m.length < N) (hl2 : m.length < 4000000000000000000) : p_sha_Sum N [m] = some (shaV m) := by
  have := shaP N hN [m] (by intro p hp; simp at hp; subst hp; exact hm) (by intro p hp; simp at hp; subst hp; exact hl) (by simp; omega) (by simpa using hl2) (by simp)
  rwa [flat1] at this
theorem map_set_step {l : List Int} {f : Int → Int} {n i : Nat} (hl : l.length = n) (hi : i < n) : ((l.take i).map f ++ l.drop i).set i (f (l.getD i 0)) = (l.take (i + 1)).map f ++ l.drop (i + 1) := by
  rw [List.set_append_right _ _ (by simp; omega)]
  have : i - ((l.take i).map f).length = 0 := by simp; omega
  rw [this, List.drop_eq_getElem_cons (by omega), List.set_cons_zero, List.take_succ, List.map_append, List.append_assoc, List.getD_eq_getElem?_getD, List.getElem?_eq_getElem (by omega)]
  rfl
theorem padsP (N : Nat) (hN : 100 < N) (key : List Int) (hk : bytesL key) (hl : key.length < N) (hl2 : key.length < 4000000000000000000) : ∃ a b, p_mac_pads N key = some (a, b) ∧ a.toList = innerV key ∧ b.toList = outerV key := by
  unfold p_mac_pads
  have e1 : (letO (decide ((key.length : Int) > 64)) fun x2 => cond x2 (Option.bind (p_sha_Sum N [key]) fun r3 => Option.bind (slcO r3.toList 0 32) fun s5 => some s5) (some key)) = some (keyV key) := by
    rw [letO_e]
    unfold keyV
    by_cases h : 64 < key.length
    · rw [if_pos h, dt (by omega), cond_true, shaP1 N hN key hk hl hl2, Option.bind_some, slcV32, Option.bind_some]
    · rw [if_neg h, df (by omega), cond_false]
  obtain ⟨v, hv1, hv2⟩ := cpV_ok (blk := Vector.replicate 64 0) (d := keyV key) (lo := 0) (len := 64) (by omega)
  have hv : v.toList = padK key := by
    have := keyV_len key
    rw [hv2]
    unfold cpy padK
    rw [List.take_zero, List.nil_append, Nat.zero_add, Nat.min_eq_left this, List.take_of_length_le (Nat.le_refl _), show (Vector.replicate 64 (0 : Int)).toList = List.replicate 64 0 from rfl, List.drop_replicate]
  rw [e1, Option.bind_some, slcB_ok (by omega) (by omega) (by omega), Option.bind_some, hv1, Option.bind_some]
  obtain ⟨⟨a, b⟩, h1, h2⟩ := loopI 64 (by decide) (fun i (p : Vector Int 64 × Vector Int 64) => p.1.toList = ((padK key).take i).map (fun x => bxor .u8 x 54) ++ (padK key).drop i ∧ p.2.toList = ((padK key).take i).map (fun x => bxor .u8 x 92) ++ (padK key).drop i) (fun k p i => p_mac_pads_L1 N k p.1 p.2 i) (fun k p i hi ⟨g1, g2⟩ => by
    have hlen := padK_len key
    refine ⟨(p.1.setIfInBounds i (bxor .u8 ((padK key).getD i 0) 54), p.2.setIfInBounds i (bxor .u8 ((padK key).getD i 0) 92)), ⟨?_, ?_⟩, ?_⟩
    · rw [show (p.1.setIfInBounds i (bxor .u8 ((padK key).getD i 0) 54)).toList = p.1.toList.set i (bxor .u8 ((padK key).getD i 0) 54) by simp, g1]
      exact map_set_step (f := fun x => bxor .u8 x 54) hlen hi
    · rw [show (p.2.setIfInBounds i (bxor .u8 ((padK key).getD i 0) 92)).toList = p.2.toList.set i (bxor .u8 ((padK key).getD i 0) 92) by simp, g2]
      exact map_set_step (f := fun x => bxor .u8 x 92) hlen hi
    · have f1 : ∀ f : Int → Int, (((padK key).take i).map f ++ (padK key).drop i)[i]? = some ((padK key).getD i 0) := by
        intro f
        rw [List.getElem?_append_right (by simp; omega), List.getElem?_drop]
        have : i + (i - (((padK key).take i).map f).length) = i := by simp; omega
        rw [this, get_getD (by omega)]
      have f2 := f1 (fun x => bxor .u8 x 54)
      have f3 := f1 (fun x => bxor .u8 x 92)
      rw [← g1] at f2
      rw [← g2] at f3
      rw [p_mac_pads_L1, dt (show (i : Int) < 64 by omega), cond_true, inRO_ok (by omega) (by omega), Option.bind_some, Int.toNat_natCast, f2, Option.bind_some, Option.bind_some, Option.bind_some, Option.bind_some, f3, Option.bind_some, Option.bind_some, Option.bind_some]) (fun k p => by rw [p_mac_pads_L1, df (by omega), cond_false]) N 0 (v, v) ⟨by simp [hv], by simp [hv]⟩ (by omega) (by omega)
  rw [show ((0 : Nat) : Int) = 0 from rfl] at h2
  refine ⟨a, b, ?_, ?_, ?_⟩
  · rw [h2, Option.bind_some]
  · rw [h1.1, List.take_of_length_le (by rw [padK_len]; omega), List.drop_of_length_le (by rw [padK_len]; omega), List.append_nil]; rfl
  · rw [h1.2, List.take_of_length_le (by rw [padK_len]; omega), List.drop_of_length_le (by rw [padK_len]; omega), List.append_nil]; rfl
theorem macP (N : Nat) (hN : 200 < N) (key : List Int) (ps : List (List Int)) (hk : bytesL key) (hl : key.length < N) (hl2 : key.length < 4000000000000000000) (hb : ∀ p ∈ ps, bytesL p) (hlen : ∀ p ∈ ps, p.length < N) (hps : ps.length < N) (hps2 : ps.length < 4000000000000000000) (hpl : ps.flatten.length < 3000000000000000000) : p_mac_Sum N key ps = some (macV key ps.flatten) := by
  unfold p_mac_Sum
  obtain ⟨a, b, e1, e2, e3⟩ := padsP N (by omega) key hk hl hl2
  rw [e1, Option.bind_some, show p_sha_New N = some () from rfl, Option.bind_some]
  dsimp only
  rw [slcV64, Option.bind_some, e2]
  obtain ⟨h1, b1, n1, f1, f2⟩ := writeP N (by omega) hok0 (by intro x hx; cases hx) [innerV key] (by intro p hp; simp at hp; subst hp; exact inner_bytes key) (by intro p hp; simp at hp; subst hp; rw [inner_len]; omega) (by simp; omega) (by simp) (by simp [inner_len])
  rw [flat1, List.nil_append] at f2
  show Option.bind (p_sha_Hash_Write_rd N [innerV key] (S_sha_Hash.mk H0 (Vector.replicate 64 0) 0)) _ = _
  rw [f1, Option.bind_some]
  obtain ⟨h2, b2, n2, f3, f4⟩ := writeP N (by omega) f2 (inner_bytes key) ps hb hlen hps (by omega) (by rw [inner_len]; omega)
  dsimp only
  rw [f3, Option.bind_some]
  dsimp only
  have hpb : bytesL ps.flatten := by
    intro x hx
    obtain ⟨p, hp, hx⟩ := List.mem_flatten.1 hx
    exact hb p hp x hx
  rw [sumP N (by omega) f4 ((inner_bytes key).app hpb) (by rw [List.length_append, inner_len]; omega), Option.bind_some, slcV64, Option.bind_some, slcV32, Option.bind_some, e3,
    shaP N (by omega) [outerV key, (shaV (innerV key ++ ps.flatten)).toList] (by intro p hp; simp at hp; rcases hp with rfl | rfl; exact outer_bytes key; exact shaV_bytes _) (by intro p hp; simp at hp; rcases hp with rfl | rfl; rw [outer_len]; omega; simp; omega) (by simp; omega) (by simp [outer_len]) (by simp), Option.bind_some]
  unfold macV
  simp
/-! the same, by the document -/
theorem macR (N : Nat) (hN : 200 < N) (key msg : List Int) (hk : bytesL key) (hl : key.length + 100 < N) (hl2 : key.length ≤ 1000000000000) (hm : bytesL msg) (hml : msg.length + 100 < N) (hml2 : msg.length ≤ 1000000000000) : p_umbraref35_Sum N key msg = some (macV key msg) := by
  unfold p_umbraref35_Sum
  rw [appO_ok (by simp; omega), Option.bind_some, List.nil_append]
  have e1 : (letO (decide ((key.length : Int) > 64)) fun x3 => cond x3 (Option.bind (p_umbraref09_Sum N key) fun r4 => Option.bind (p_umbraref35_Sum_L1 N r4 N [] 0) fun p5 => some p5) (some key)) = some (keyV key) := by
    rw [letO_e]
    unfold keyV
    by_cases h : 64 < key.length
    · rw [if_pos h, dt (by omega), cond_true, shaR N (by omega) key hk (by omega) (by omega), Option.bind_some,
        loopVecApp (by decide) (shaV key) (p_umbraref35_Sum_L1 N (shaV key)) (fun k s i hi hs => by rw [p_umbraref35_Sum_L1, dt (show (i : Int) < 32 by omega), cond_true, inRO_ok (by omega) (by omega), Option.bind_some, Int.toNat_natCast, get_getD (by simp; omega), Option.bind_some, appO_ok (by simp; omega), Option.bind_some]) (fun k s => by rw [p_umbraref35_Sum_L1, df (by omega), cond_false]) (by omega) (s := []) (by simp), Option.bind_some, List.nil_append]
    · rw [if_neg h, df (by omega), cond_false]
  have hkl := keyV_len key
  have e2 : ∀ (k j : Nat), j ≤ 64 - (keyV key).length → 64 - (keyV key).length - j < k → p_umbraref35_Sum_L2 N k (keyV key ++ List.replicate j 0) = some (padK key) := by
    intro k
    induction k with
    | zero => intro j _ h; omega
    | succ k ih =>
      intro j hj hjk
      rw [p_umbraref35_Sum_L2, letO_e]
      by_cases h : j < 64 - (keyV key).length
      · rw [dt (by simp; omega), cond_true, appO_ok (by simp; omega), Option.bind_some, List.append_assoc, show ([0] : List Int) = List.replicate 1 0 from rfl, List.replicate_append_replicate]
        exact ih (j + 1) (by omega) (by omega)
      · obtain rfl : j = 64 - (keyV key).length := by omega
        rw [df (by simp; omega), cond_false]
        rfl
  have e3 := e2 N 0 (by omega) (by omega)
  rw [List.replicate_zero, List.append_nil] at e3
  have hpl := padK_len key
  obtain ⟨⟨a, b⟩, h1, h2⟩ := loopI 64 (by decide) (fun i (p : List Int × List Int) => p.1 = ((padK key).take i).map (fun x => bxor .u8 x 54) ∧ p.2 = ((padK key).take i).map (fun x => bxor .u8 x 92)) (fun k p i => p_umbraref35_Sum_L3 N (padK key) k p.1 p.2 i) (fun k p i hi ⟨g1, g2⟩ => by
    refine ⟨(_, _), ⟨rfl, rfl⟩, ?_⟩
    have ht : ∀ f : Int → Int, ((padK key).take (i + 1)).map f = ((padK key).take i).map f ++ [f ((padK key).getD i 0)] := by
      intro f
      rw [List.take_succ, List.map_append, get_getD (by omega)]
      rfl
    rw [p_umbraref35_Sum_L3, dt (show (i : Int) < 64 by omega), cond_true, idx_D (by omega), Option.bind_some, appO_ok (by rw [g1]; simp; omega), Option.bind_some, Option.bind_some, appO_ok (by rw [g2]; simp; omega), Option.bind_some, g1, g2, ht, ht]) (fun k p => by rw [p_umbraref35_Sum_L3, df (by omega), cond_false]) N 0 ([], []) ⟨by simp, by simp⟩ (by omega) (by omega)
  rw [show ((0 : Nat) : Int) = 0 from rfl] at h2
  have ha : a = innerV key := by have := h1.1; dsimp only at this; rw [this, List.take_of_length_le (by omega)]; rfl
  have hb : b = outerV key := by have := h1.2; dsimp only at this; rw [this, List.take_of_length_le (by omega)]; rfl
  rw [e1, Option.bind_some, e3, Option.bind_some, h2, Option.bind_some]
  dsimp only
  rw [ha, hb, appO_ok (by rw [inner_len]; omega), Option.bind_some, shaR N (by omega) _ ((inner_bytes key).app hm) (by rw [List.length_append, inner_len]; omega) (by rw [List.length_append, inner_len]; omega), Option.bind_some,
    loopVecApp (by decide) (shaV (innerV key ++ msg)) (p_umbraref35_Sum_L4 N (shaV (innerV key ++ msg))) (fun k s i hi hs => by rw [p_umbraref35_Sum_L4, dt (show (i : Int) < 32 by omega), cond_true, inRO_ok (by omega) (by omega), Option.bind_some, Int.toNat_natCast, get_getD (by simp; omega), Option.bind_some, appO_ok (by simp; omega), Option.bind_some]) (fun k s => by rw [p_umbraref35_Sum_L4, df (by omega), cond_false]) (by omega) (s := outerV key) (by rw [outer_len]; omega), Option.bind_some,
    shaR N (by omega) _ ((outer_bytes key).app (shaV_bytes _)) (by rw [List.length_append, outer_len]; simp) (by rw [List.length_append, outer_len]; simp; omega), Option.bind_some]
  rfl
end Go.UK
