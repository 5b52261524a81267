/- A part of the proof: what the functions of the program compute. -/
import Derived.Test.YtcaadpceoajapaaS9
namespace Go.UK
open Go Go.Proofs
set_option maxRecDepth 20000
set_option maxHeartbeats 1000000
set_option linter.all false
/-! ### equality -/
theorem eqL_iff {α : Type} {eq : α → α → Bool} (h : ∀ a b, eq a b = true ↔ a = b) : ∀ (l r : List α), eqL eq l r = true ↔ l = r
  | [], [] => by simp [eqL]
  | [], _ :: _ => by simp [eqL]
  | _ :: _, [] => by simp [eqL]
  | a :: l, b :: r => by simp [eqL, h, eqL_iff h l r]
theorem eqV_iff {m : Nat} (a b : Vector Int m) : eqV (fun a b => a == b) a b = true ↔ a = b := by
  unfold eqV
  rw [eqL_iff (fun a b => by simp)]
  constructor
  · intro h
    exact Vector.toList_inj.1 h
  · intro h; rw [h]
theorem eqV_dec {m : Nat} (a b : Vector Int m) : eqV (fun a b => a == b) a b = decide (a = b) := by
  rw [Bool.eq_iff_iff, eqV_iff, decide_eq_true_eq]
theorem rec_eq (a b : S_api_Receipt) : S_api_Receipt.eq a b = true ↔ a = b := by
  unfold S_api_Receipt.eq
  simp only [Bool.and_eq_true, eqV_iff, beq_iff_eq, and_true]
  constructor
  · rintro ⟨h1, h2, h3, h4, h5, h6, h7⟩
    cases a; cases b
    dsimp only at *
    subst h1 h2 h3 h4 h5 h6 h7
    rfl
  · rintro rfl
    exact ⟨rfl, rfl, rfl, rfl, rfl, rfl, rfl⟩
theorem rec_t (a : S_api_Receipt) : S_api_Receipt.eq a a = true := (rec_eq a a).2 rfl
theorem rec_f {a b : S_api_Receipt} (h : a ≠ b) : S_api_Receipt.eq a b = false := by
  cases hc : S_api_Receipt.eq a b with
  | true => exact absurd ((rec_eq a b).1 hc) h
  | false => rfl
/-! ### all bytes are looked at -/
theorem ofInt8 {a : Int} (h : isB a) : (BitVec.ofInt 8 a).toNat = a.toNat := by
  obtain ⟨h0, h1⟩ := h
  rw [BitVec.toNat_ofInt]
  simp
  omega
theorem bxor8 {a b : Int} (ha : isB a) (hb : isB b) : bxor .u8 a b = 0 ↔ a = b := by
  have e : bxor .u8 a b = ((BitVec.ofInt 8 a ^^^ BitVec.ofInt 8 b).toNat : Int) := by
    unfold bxor
    have : (BitVec.ofInt 8 a ^^^ BitVec.ofInt 8 b).toNat < 256 := (BitVec.ofInt 8 a ^^^ BitVec.ofInt 8 b).isLt
    exact U8_id (by omega) (by show ((BitVec.ofInt 8 a ^^^ BitVec.ofInt 8 b).toNat : Int) < 256; omega)
  rw [e]
  constructor
  · intro h
    have h1 : (BitVec.ofInt 8 a ^^^ BitVec.ofInt 8 b) = 0#8 := by
      apply BitVec.eq_of_toNat_eq
      simp only [BitVec.toNat_ofNat]
      omega
    have h2 : BitVec.ofInt 8 a = BitVec.ofInt 8 b := BitVec.xor_eq_zero_iff.1 h1
    have h3 := congrArg BitVec.toNat h2
    rw [ofInt8 ha, ofInt8 hb] at h3
    have := ha.1
    have := hb.1
    omega
  · rintro rfl
    rw [BitVec.xor_self]
    rfl
theorem bor8 {a b : Int} (ha : isB a) (hb : isB b) : isB (bor .u8 a b) ∧ (bor .u8 a b = 0 ↔ a = 0 ∧ b = 0) := by
  refine ⟨U8_b _, ?_⟩
  have e : bor .u8 a b = ((BitVec.ofInt 8 a ||| BitVec.ofInt 8 b).toNat : Int) := by
    unfold bor
    have : (BitVec.ofInt 8 a ||| BitVec.ofInt 8 b).toNat < 256 := (BitVec.ofInt 8 a ||| BitVec.ofInt 8 b).isLt
    exact U8_id (by omega) (by show ((BitVec.ofInt 8 a ||| BitVec.ofInt 8 b).toNat : Int) < 256; omega)
  rw [e, BitVec.toNat_or, ofInt8 ha, ofInt8 hb]
  have h0 := ha.1
  have h1 := hb.1
  constructor
  · intro h
    have h : a.toNat ||| b.toNat = 0 := by omega
    have := Nat.or_eq_zero_iff.1 h
    omega
  · rintro ⟨rfl, rfl⟩
    rfl
theorem sameL (N : Nat) (a b : Vector Int 32) (ha : vbytes a) (hb : vbytes b) : ∀ (k i : Nat) (s : Int), isB s → i ≤ 32 → 32 - i < k → ∃ t, p_mac_Same_L1 N a b k s (i : Int) = some t ∧ isB t ∧ (t = 0 ↔ s = 0 ∧ ∀ j, i ≤ j → j < 32 → a.toList.getD j 0 = b.toList.getD j 0)
  | 0, _, _, _, _, h => by omega
  | k + 1, i, s, hs, hi, hk => by
    rw [p_mac_Same_L1]
    by_cases h : i < 32
    · have b1 : isB (bxor .u8 (a.toList.getD i 0) (b.toList.getD i 0)) := bxor_b
      obtain ⟨c1, c2⟩ := bor8 hs b1
      rw [dt (by omega), cond_true, idx_D (by simp; omega), Option.bind_some, idx_D (by simp; omega), Option.bind_some, letO_e, I64_s (by omega)]
      obtain ⟨t, h1, h2, h3⟩ := sameL N a b ha hb k (i + 1) _ c1 (by omega) (by omega)
      refine ⟨t, h1, h2, ?_⟩
      rw [h3, c2, bxor8 (ha.getD i) (hb.getD i)]
      constructor
      · rintro ⟨⟨h4, h5⟩, h6⟩
        refine ⟨h4, fun j hj hj2 => ?_⟩
        rcases Nat.lt_or_ge i j with h7 | h7
        · exact h6 j h7 hj2
        · obtain rfl : j = i := by omega
          exact h5
      · rintro ⟨h4, h5⟩
        exact ⟨⟨h4, h5 i (Nat.le_refl _) h⟩, fun j hj hj2 => h5 j (by omega) hj2⟩
    · refine ⟨s, by rw [df (by omega), cond_false], hs, ?_⟩
      constructor
      · intro h0; exact ⟨h0, fun j hj hj2 => by omega⟩
      · intro h0; exact h0.1
theorem vext {m : Nat} {a b : Vector Int m} (h : ∀ j, j < m → a.toList.getD j 0 = b.toList.getD j 0) : a = b := by
  apply Vector.ext
  intro i hi
  have := h i hi
  rwa [getD_vec _ i hi, getD_vec _ i hi] at this
theorem sameP (N : Nat) (hN : 32 < N) (a b : Vector Int 32) (ha : vbytes a) (hb : vbytes b) : p_mac_Same N a b = some (decide (a = b)) := by
  unfold p_mac_Same
  obtain ⟨t, h1, h2, h3⟩ := sameL N a b ha hb N 0 0 ⟨by decide, by decide⟩ (by omega) (by omega)
  rw [show ((0 : Nat) : Int) = 0 from rfl] at h1
  rw [h1, Option.bind_some]
  congr 1
  rw [Bool.eq_iff_iff, beq_iff_eq, decide_eq_true_eq, h3]
  constructor
  · rintro ⟨_, h⟩
    exact vext (fun j hj => h j (by omega) hj)
  · rintro rfl
    exact ⟨rfl, fun _ _ _ => rfl⟩
/-! ### what is put together -/
theorem concL1 (N : Nat) (ls : List (List Int)) (hl : ls.length < 1000000000) (hb : ∀ l ∈ ls, l.length ≤ 1000000000) : ∀ (k i : Nat) (t : Nat), i ≤ ls.length → ls.length - i < k → t ≤ 1000000000 * i → p_slices_Concat_byte_byte_L1 N ls k (t : Int) (i : Int) = some ((t + (ls.drop i).flatten.length : Nat) : Int)
  | 0, _, _, _, h, _ => by omega
  | k + 1, i, t, hi, hk, ht => by
    rw [p_slices_Concat_byte_byte_L1, letO_e]
    by_cases h : i < ls.length
    · have hx := hb _ (List.getElem_mem h)
      have e : I64 ((t : Int) + (ls[i].length : Int)) = ((t + ls[i].length : Nat) : Int) := by rw [I64_id (by omega) (by omega)]; omega
      rw [dt (by omega), cond_true, idx_at h, Option.bind_some, e, letO_e, df (by omega), cond_false, I64_s (by omega), concL1 N ls hl hb k (i + 1) _ (by omega) (by omega) (by omega), List.drop_eq_getElem_cons h, List.flatten_cons, List.length_append]
      congr 2
      omega
    · rw [df (by omega), cond_false, List.drop_of_length_le (by omega)]
      simp
theorem concP (N : Nat) (ls : List (List Int)) (hl : ls.length < 1000) (hN : ls.length < N) (hb : ∀ l ∈ ls, l.length ≤ 1000000000) : p_slices_Concat_byte_byte N ls = some ls.flatten := by
  unfold p_slices_Concat_byte_byte
  have h1 := concL1 N ls (by omega) hb N 0 0 (by omega) (by omega) (by omega)
  rw [show ((0 : Nat) : Int) = 0 from rfl, List.drop_zero, Nat.zero_add] at h1
  have hfl : ∀ (l : List (List Int)), (∀ x ∈ l, x.length ≤ 1000000000) → l.flatten.length ≤ 1000000000 * l.length := by
    intro l
    induction l with
    | nil => intro _; simp
    | cons a l ih =>
      intro h
      rw [List.flatten_cons, List.length_append, List.length_cons]
      have := h a (by simp)
      have := ih (fun x hx => h x (by simp [hx]))
      omega
  have hfl2 := hfl ls hb
  have h2 := loopList0 ls (by omega) (fun s a => s ++ a) (fun s => True) (p_slices_Concat_byte_byte_L2 N ls) (fun _ _ _ _ => trivial)
  have h3 : ∀ (k i : Nat) (s : List Int), s = (ls.take i).flatten → i ≤ ls.length → ls.length - i < k → p_slices_Concat_byte_byte_L2 N ls k s (i : Int) = some ls.flatten := by
    intro k
    induction k with
    | zero => intro i s _ _ h; omega
    | succ k ih =>
      intro i s hs hi hk
      rw [p_slices_Concat_byte_byte_L2, letO_e]
      by_cases h : i < ls.length
      · have e1 : s ++ ls[i] = (ls.take (i + 1)).flatten := by rw [hs, List.take_succ, List.getElem?_eq_getElem h, List.flatten_append]; simp
        have e2 := hfl (ls.take (i + 1)) (fun x hx => hb x (List.mem_of_mem_take hx))
        rw [← e1, List.length_append, List.length_take] at e2
        rw [dt (by omega), cond_true, idx_at h, Option.bind_some, appO_ok (by omega), Option.bind_some, I64_s (by omega), e1]
        exact ih (i + 1) _ rfl (by omega) (by omega)
      · rw [df (by omega), cond_false, hs, List.take_of_length_le (by omega)]
  rw [h1, Option.bind_some, growO_ok (by omega) (by omega) (by omega), Option.bind_some]
  have h4 := h3 N 0 [] (by simp) (by omega) (by omega)
  rw [show ((0 : Nat) : Int) = 0 from rfl] at h4
  rw [h4, Option.bind_some]
/-! ### receipts -/
structure RecOK (r : S_api_Receipt) : Prop where
  layer : in64 r.gLayer
  seq : in64 r.gSeq
  who : in64 r.gWho
  clock : isW r.gClock
  sum : vbytes r.gSum
  head : vbytes r.gHead
  tag : vbytes r.gTag
def encV (r : S_api_Receipt) : List Int := s8 [r.gLayer, r.gSeq, r.gWho] ++ leB 4 r.gClock ++ r.gSum.toList ++ r.gHead.toList ++ r.gTag.toList
theorem encV_len (r : S_api_Receipt) : (encV r).length = 124 := by unfold encV; simp only [List.length_append, s8_len, leB_len]; simp
theorem encV_bytes {r : S_api_Receipt} (h : RecOK r) : bytesL (encV r) := ((((s8_bytes _).app (leB_bytes _ _)).app h.sum).app h.head).app h.tag
theorem rec3 {r : S_api_Receipt} (h : RecOK r) : in64L [r.gLayer, r.gSeq, r.gWho] := by
  intro x hx
  simp only [List.mem_cons, List.not_mem_nil, or_false] at hx
  rcases hx with rfl | rfl | rfl
  · exact h.layer
  · exact h.seq
  · exact h.who
theorem put4 (b : List Int) {x : Int} (h : isW x) : putV b 4 [x] = (b ++ leB 4 x, 0) := by
  unfold putV
  have : big 4 x = false := by unfold big; rw [show p256 4 = 4294967296 from rfl]; exact df (by have := h.2; omega)
  simp [this]
theorem encP (N : Nat) (hN : 200 < N) (r : S_api_Receipt) (h : RecOK r) : p_receipt_Encode N r = some (encV r) := by
  unfold p_receipt_Encode
  have h1 := sgnP N [] 8 (by decide) (by decide) _ (rec3 h) (by decide) (by simp) (by omega) (by simp; omega)
  rw [sgn8 _ _ (rec3 h), List.nil_append] at h1
  have hc : U64 r.gClock = r.gClock := U64_id h.clock.1 (by have := h.clock.2; omega)
  show Option.bind (p_codec_Signed N [] ((8 : Nat) : Int) [r.gLayer, r.gSeq, r.gWho]) _ = _
  rw [h1, Option.bind_some, hc]
  show Option.bind (p_codec_Put N (s8 [r.gLayer, r.gSeq, r.gWho]) ((4 : Nat) : Int) [r.gClock]) _ = _
  rw [putP N _ 4 (by decide) (by decide) _ (by intro x hx; simp at hx; subst hx; exact ⟨h.clock.1, by have := h.clock.2; omega⟩) (by rw [s8_len]; simp) (by simp) (by omega) (by simp; omega), Option.bind_some, put4 _ h.clock, slcV32, Option.bind_some, slcV32, Option.bind_some, slcV32, Option.bind_some,
    concP N _ (by simp) (by simp; omega) (by intro l hl; simp at hl; rcases hl with rfl | rfl | rfl | rfl; (rw [List.length_append, s8_len, leB_len]; simp); simp; simp; simp), Option.bind_some]
  unfold encV
  simp
theorem encR (N : Nat) (hN : 200 < N) (r : S_api_Receipt) (h : RecOK r) : p_umbraref37_Encode N r = some (encV r) := by
  unfold p_umbraref37_Encode
  have h1 := sgnR N [] 8 (by decide) (by decide) _ (rec3 h) (by decide) (by simp) (by omega) (by simp; omega)
  rw [sgn8 _ _ (rec3 h), List.nil_append] at h1
  have hc : U64 r.gClock = r.gClock := U64_id h.clock.1 (by have := h.clock.2; omega)
  show Option.bind (p_umbraref11_Signed N [] ((8 : Nat) : Int) [r.gLayer, r.gSeq, r.gWho]) _ = _
  rw [h1, Option.bind_some, hc]
  show Option.bind (p_umbraref11_Put N (s8 [r.gLayer, r.gSeq, r.gWho]) ((4 : Nat) : Int) [r.gClock]) _ = _
  rw [putR N _ 4 (by decide) (by decide) _ (by intro x hx; simp at hx; subst hx; exact ⟨h.clock.1, by have := h.clock.2; omega⟩) (by rw [s8_len]; simp) (by simp) (by omega) (by simp; omega), Option.bind_some, put4 _ h.clock, bytesR N (by omega), Option.bind_some, appO_ok (by simp only [List.length_append, s8_len, leB_len]; simp), Option.bind_some, bytesR N (by omega), Option.bind_some, appO_ok (by simp only [List.length_append, s8_len, leB_len]; simp), Option.bind_some, bytesR N (by omega), Option.bind_some, appO_ok (by simp only [List.length_append, s8_len, leB_len]; simp), Option.bind_some]
  rfl
def noTag (r : S_api_Receipt) : S_api_Receipt := S_api_Receipt.mk r.gLayer r.gSeq r.gWho r.gClock r.gSum r.gHead (Vector.replicate 32 0)
theorem zero32 : vbytes (Vector.replicate 32 (0 : Int)) := by
  intro x hx
  have : x = 0 := by simpa using hx
  subst this
  exact ⟨by decide, by decide⟩
theorem noTag_ok {r : S_api_Receipt} (h : RecOK r) : RecOK (noTag r) := ⟨h.layer, h.seq, h.who, h.clock, h.sum, h.head, zero32⟩
def tagV (key : Vector Int 32) (r : S_api_Receipt) : Vector Int 32 := macV key.toList (encV (noTag r))
theorem tagP (N : Nat) (hN : 300 < N) (key : Vector Int 32) (hk : vbytes key) (r : S_api_Receipt) (h : RecOK r) : p_receipt_tag N key r = some (tagV key r) := by
  unfold p_receipt_tag
  rw [slcV32, Option.bind_some]
  show Option.bind (p_receipt_Encode N (noTag r)) _ = _
  rw [encP N (by omega) _ (noTag_ok h), Option.bind_some, macP N (by omega) _ _ hk (by simp; omega) (by simp) (by intro p hp; simp at hp; subst hp; exact encV_bytes (noTag_ok h)) (by intro p hp; simp at hp; subst hp; rw [encV_len]; omega) (by simp; omega) (by simp) (by simp [encV_len]), Option.bind_some, flat1]
  rfl
theorem tagR (N : Nat) (hN : 300 < N) (key : Vector Int 32) (hk : vbytes key) (r : S_api_Receipt) (h : RecOK r) : p_umbraref37_tag N key r = some (tagV key r) := by
  unfold p_umbraref37_tag
  rw [bytesR N (by omega), Option.bind_some]
  show Option.bind (p_umbraref37_Encode N (noTag r)) _ = _
  rw [encR N (by omega) _ (noTag_ok h), Option.bind_some, macR N (by omega) _ _ hk (by simp; omega) (by simp) (encV_bytes (noTag_ok h)) (by rw [encV_len]; omega) (by rw [encV_len]; omega), Option.bind_some]
  rfl
end Go.UK
