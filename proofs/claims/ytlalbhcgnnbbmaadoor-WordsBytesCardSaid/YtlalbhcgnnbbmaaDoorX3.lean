/- A part of the proof: what the functions of the program compute. -/
import Derived.Test.YtlalbhcgnnbbmaaDoorX2
import Derived.Laws.Strings
namespace Go.UK
open Go Go.Proofs
set_option maxRecDepth 20000
set_option maxHeartbeats 1000000
set_option linter.all false
/-! ### bytes and their word -/
def isB (x : Int) : Prop := 0 ≤ x ∧ x < 256
def bytesL (m : List Int) : Prop := ∀ x ∈ m, isB x
def dg (d : Int) : Int := if d < 10 then 48 + d else 87 + d
def dig (c : Int) : Int := if 48 ≤ c ∧ c ≤ 57 then c - 48 else if 97 ≤ c ∧ c ≤ 102 then c - 87 else -1
theorem dig_lt (c : Int) : dig c < 16 := by
  unfold dig
  split
  · omega
  · split <;> omega
theorem dig_dg {d : Int} (h : 0 ≤ d ∧ d < 16) : dig (dg d) = d := by unfold dg dig; split <;> (repeat' split) <;> omega
theorem dg_dig {c : Int} (h : 0 ≤ dig c) : dg (dig c) = c := by
  unfold dig at h ⊢
  split
  · unfold dg; split <;> omega
  · rename_i h1
    rw [if_neg h1] at h
    split
    · unfold dg; split <;> omega
    · rename_i h2; rw [if_neg h2] at h; omega
theorem dg_B {d : Int} (h : 0 ≤ d ∧ d < 16) : isB (dg d) := by unfold dg isB; split <;> omega
def hexI (b : List Int) : List Int := b.flatMap fun x => [dg (x / 16), dg (x % 16)]
theorem hexI_len : ∀ b : List Int, (hexI b).length = 2 * b.length
  | [] => rfl
  | x :: b => by
    have := hexI_len b
    unfold hexI at this ⊢
    rw [List.flatMap_cons, List.length_append, this]
    simp
    omega
theorem hexStep : ∀ x : Fin 256, idx str_8.data.toList (shr .u8 (x.val : Int) 4) = some (UInt8.ofNat (dg ((x.val : Int) / 16)).toNat) ∧ idx str_8.data.toList (band .u8 (x.val : Int) 15) = some (UInt8.ofNat (dg ((x.val : Int) % 16)).toNat) := by decide +kernel
theorem toB {x : Int} (h : isB x) : ((UInt8.ofNat x.toNat).toNat : Int) = x := by
  obtain ⟨h0, h1⟩ := h
  rw [UInt8.toNat_ofNat']
  omega
theorem hexL (N : Nat) (b : List Int) (hb : bytesL b) (hl : b.length ≤ 1000) : ∀ (k i : Nat) (z : List Int), i ≤ b.length → b.length - i < k → z = hexI (b.take i) → p_words_Hex_L1 N b k z (i : Int) = some (hexI b)
  | 0, _, _, _, h, _ => by omega
  | k + 1, i, z, hi, hk, hz => by
    rw [p_words_Hex_L1, letO_e]
    by_cases h : i < b.length
    · have hx := hb _ (List.getElem_mem h)
      obtain ⟨X, hX⟩ := Int.eq_ofNat_of_zero_le hx.1
      have hX2 : X < 256 := by have := hx.2; omega
      obtain ⟨e1, e2⟩ := hexStep ⟨X, hX2⟩
      dsimp only at e1 e2
      have hzl : z.length = 2 * i := by rw [hz, hexI_len, List.length_take]; omega
      rw [dt (show (i : Int) < (b.length : Int) by omega), cond_true, idx_at h, Option.bind_some, hX, e1, Option.bind_some, e2, Option.bind_some, toB (dg_B (by omega)), toB (dg_B (by omega)), appO_ok (by simp; omega), Option.bind_some, I64_s (by omega)]
      refine hexL N b hb hl k (i + 1) _ (by omega) (by omega) ?_
      rw [List.take_succ_eq_append_getElem h, hz, hX]
      unfold hexI
      rw [List.flatMap_append]
      simp
    · rw [df (show ¬ (i : Int) < (b.length : Int) by omega), cond_false, hz, List.take_of_length_le (by omega)]
def hexV (b : List Int) : ByteArray := match b with | [] => ⟨#[45]⟩ | _ => strO (hexI b)
theorem hexP (N : Nat) (hN : 300 < N) (b : List Int) (hb : bytesL b) (hl : b.length ≤ 200) : p_words_Hex N b = some (hexV b) := by
  unfold p_words_Hex
  cases b with
  | nil => rfl
  | cons x b =>
    rw [letO_e, show (((x :: b).length : Int) == 0) = false by simp; omega, cond_false]
    have h := hexL N (x :: b) hb (by omega) N 0 [] (by omega) (by omega) rfl
    have h : p_words_Hex_L1 N (x :: b) N [] 0 = _ := h
    rw [h]
    rfl
/-! reading -/
theorem digitP (N : Nat) (c : Int) (h0 : 0 ≤ c) (h1 : c < 1114112) : p_words_digit N c = some (dig c) := by
  unfold p_words_digit dig
  rw [letO_e]
  by_cases h : 48 ≤ c ∧ c ≤ 57
  · rw [dt (show c ≥ 48 by omega), dt (show c ≤ 57 by omega), cond_true, cond_true, if_pos h]
    have : I32 (c - 48) = c - 48 := by show IntKind.i32.wrap _ = _; rw [IntKind.wrap_i32]; omega
    rw [this, I64_id (by omega) (by omega)]
  · have e1 : (cond (decide (c ≥ 48)) (decide (c ≤ 57)) false) = false := by
      by_cases h2 : c ≥ 48
      · rw [dt h2, cond_true, df (by omega)]
      · rw [df h2, cond_false]
    rw [e1, cond_false, if_neg h, letO_e]
    by_cases h3 : 97 ≤ c ∧ c ≤ 102
    · rw [dt (show c ≥ 97 by omega), dt (show c ≤ 102 by omega), cond_true, cond_true, if_pos h3]
      have : I32 (c - 97) = c - 97 := by show IntKind.i32.wrap _ = _; rw [IntKind.wrap_i32]; omega
      rw [this, I64_id (x := c - 97) (by omega) (by omega), letO_e, I64_id (by omega) (by omega)]
      congr 1
      omega
    · have e2 : (cond (decide (c ≥ 97)) (decide (c ≤ 102)) false) = false := by
        by_cases h2 : c ≥ 97
        · rw [dt h2, cond_true, df (by omega)]
        · rw [df h2, cond_false]
      rw [e2, cond_false, if_neg h3]
theorem bor16 : ∀ h d : Fin 16, U8 (bor .i64 (shl .i64 (h.val : Int) 4) (d.val : Int)) = 16 * (h.val : Int) + (d.val : Int) := by decide +kernel
theorem bor16' {h d : Int} (h0 : 0 ≤ h ∧ h < 16) (d0 : 0 ≤ d ∧ d < 16) : U8 (bor .i64 (shl .i64 h 4) d) = 16 * h + d := by
  obtain ⟨H, rfl⟩ := Int.eq_ofNat_of_zero_le h0.1
  obtain ⟨D, rfl⟩ := Int.eq_ofNat_of_zero_le d0.1
  exact bor16 ⟨H, by omega⟩ ⟨D, by omega⟩
def bytesV : List Int → Option (List Int)
  | c :: d :: r => cond (decide (dig c < 0) || decide (dig d < 0)) none ((bytesV r).map fun l => (16 * dig c + dig d) :: l)
  | _ => some []
def cAt (s : ByteArray) (p : Nat) : Int := ((byteAt s p).toNat : Int)
theorem rune_top (s : ByteArray) (p : Nat) : runeAt s p < 1114112 := by
  unfold runeAt Utf8.decode
  have e : Utf8.runeError = 65533 := rfl
  have hb : ∀ j, (s.get! (p + j)).toNat < 256 := fun j => UInt8.toNat_lt _
  have h0 := hb 0
  have h1 := hb 1
  have h2 := hb 2
  have h3 := hb 3
  dsimp only
  repeat' split
  all_goals (try simp only [Bool.and_eq_true, Utf8.valid, Bool.or_eq_true, decide_eq_true_eq, beq_iff_eq] at *)
  all_goals (try dsimp only)
  all_goals omega
/-- one letter: its digit, and where the next stands when it is one -/
theorem runeDig (N : Nat) (s : ByteArray) (p : Nat) (h : p < s.size) : p_words_digit N (runeAt s p) = some (dig (cAt s p)) ∧ (0 ≤ dig (cAt s p) → runeNext s p = p + 1) := by
  have R := runeOK s p h
  have ht := rune_top s p
  have h0 : 0 ≤ runeAt s p := by unfold runeAt; omega
  by_cases hl : byteAt s p < 128
  · have hd := R.low hl
    have e : runeAt s p = cAt s p := by unfold runeAt cAt; rw [hd]
    have en : runeNext s p = p + 1 := by unfold runeNext; rw [hd]
    refine ⟨?_, fun _ => en⟩
    rw [digitP N _ h0 ht, e]
  · have hh := R.high hl
    have hc : 128 ≤ cAt s p := by
      have : ¬ (byteAt s p).toNat < 128 := hl
      unfold cAt
      omega
    have e1 : dig (cAt s p) = -1 := by unfold dig; rw [if_neg (by omega), if_neg (by omega)]
    have e2 : dig (runeAt s p) = -1 := by
      have : 128 ≤ runeAt s p := by unfold runeAt; omega
      unfold dig; rw [if_neg (by omega), if_neg (by omega)]
    refine ⟨?_, fun hx => by omega⟩
    rw [digitP N _ h0 ht, e1, e2]
theorem bytesI_at (s : ByteArray) (p : Nat) (h : p < s.size) : (bytesI s).drop p = cAt s p :: (bytesI s).drop (p + 1) := by
  have hl : (bytesI s).length = s.size := by unfold bytesI; rw [List.length_map, size_data]
  rw [List.drop_eq_getElem_cons (by omega)]
  congr 1
  unfold bytesI cAt byteAt
  rw [List.getElem_map, List.getElem?_eq_getElem (by rw [size_data]; exact h)]
  rfl
theorem readL (N : Nat) (s : ByteArray) (hs : s.size ≤ 1000) : ∀ (m p k : Nat) (O : List Int) (hg : Int), p % 2 = 0 → p + 2 * m = s.size → 2 * m < k → O.length ≤ p → 
    p_words_Bytes_L1 N s k O p hg = some (match bytesV ((bytesI s).drop p) with | some r => Sum.inl (O ++ r, s.size) | none => Sum.inr (([], 5) : List Int × Int))
  | 0, p, 0, _, _, _, _, h, _ => by omega
  | 0, p, k + 1, O, hg, hp, hm, hk, hO => by
    have e : p = s.size := by omega
    subst e
    have hd : (bytesI s).drop s.size = [] := List.drop_of_length_le (by unfold bytesI; rw [List.length_map, size_data]; omega)
    rw [p_words_Bytes_L1, df (by omega), cond_false, hd]
    simp [bytesV]
  | m + 1, p, 0, _, _, _, _, h, _ => by omega
  | m + 1, p, 1, _, _, _, _, h, _ => by omega
  | m + 1, p, k + 2, O, hg, hp, hm, hk, hO => by
    have h1 : p < s.size := by omega
    have h2 : p + 1 < s.size := by omega
    obtain ⟨d1, n1⟩ := runeDig N s p h1
    obtain ⟨d2, n2⟩ := runeDig N s (p + 1) h2
    have l1 := dig_lt (cAt s p)
    have l2 := dig_lt (cAt s (p + 1))
    rw [bytesI_at s p h1, bytesI_at s (p + 1) h2, bytesV]
    rw [p_words_Bytes_L1, dt h1, cond_true, d1, Option.bind_some]
    by_cases c1 : dig (cAt s p) < 0
    · rw [dt c1, cond_true, Bool.true_or, cond_true]
    · have t1 : Int.tmod (p : Int) 2 = 0 := by rw [Int.tmod_eq_emod_of_nonneg (by omega)]; omega
      have t2 : Int.tmod ((p + 1 : Nat) : Int) 2 = 1 := by rw [Int.tmod_eq_emod_of_nonneg (by omega)]; omega
      rw [df c1, cond_false, letO_e, t1, show ((0 : Int) == 0) = true from rfl, cond_true, n1 (by omega), p_words_Bytes_L1, dt h2, cond_true, d2, Option.bind_some]
      by_cases c2 : dig (cAt s (p + 1)) < 0
      · rw [dt c2, cond_true, Bool.or_true, cond_true]
      · rw [df c2, cond_false, letO_e, t2, show ((1 : Int) == 0) = false from rfl, cond_false, letO_e, bor16' (by omega) (by omega), appO_ok (by simp; omega), Option.bind_some, n2 (by omega), Bool.or_self, cond_false]
        rw [readL N s hs m (p + 1 + 1) k _ _ (by omega) (by omega) (by omega) (by simp; omega)]
        cases bytesV (List.drop (p + 1 + 1) (bytesI s)) with
        | none => rfl
        | some r => simp
def wordV (s : ByteArray) : List Int × Int := if s = ⟨#[45]⟩ then ([], 0) else if s.size = 0 ∨ s.size % 2 = 1 then ([], 5) else match bytesV (bytesI s) with | some r => (r, 0) | none => ([], 5)
theorem tl_eq (a b : ByteArray) : (ByteArray.toList a == ByteArray.toList b) = decide (a = b) := by
  rw [ByteArray.toList_eq, ByteArray.toList_eq, Bool.eq_iff_iff, beq_iff_eq, decide_eq_true_eq]
  exact ⟨fun h => ba_ext h, fun h => by rw [h]⟩
theorem wordP (N : Nat) (hN : 500 < N) (s : ByteArray) (hs : s.size ≤ 410) : p_words_Bytes N s = some (wordV s) := by
  unfold p_words_Bytes wordV
  rw [letO_e, tl_eq]
  by_cases h : s = ⟨#[45]⟩
  · rw [dt h, cond_true, if_pos h]
  · rw [df h, cond_false, if_neg h, letO_e, letO_e]
    have t : Int.tmod (s.size : Int) 2 = ((s.size % 2 : Nat) : Int) := by rw [Int.tmod_eq_emod_of_nonneg (by omega)]; omega
    rw [t]
    by_cases h1 : s.size = 0 ∨ s.size % 2 = 1
    · rw [if_pos h1, letO_e]
      have : (cond ((s.size : Int) == 0) true (((s.size % 2 : Nat) : Int) == 1)) = true := by
        rcases h1 with h1 | h1
        · rw [h1]; rfl
        · rw [h1]; cases ((s.size : Int) == 0) <;> rfl
      rw [this, cond_true]
    · rw [if_neg h1, letO_e]
      have : (cond ((s.size : Int) == 0) true (((s.size % 2 : Nat) : Int) == 1)) = false := by
        rw [show ((s.size : Int) == 0) = false from beq_eq_false_iff_ne.2 (fun e => h1 (.inl (by omega))), cond_false]
        exact beq_eq_false_iff_ne.2 (fun e => h1 (.inr (by omega)))
      rw [this, cond_false, letO_e]
      have hm : mkO 1 (I64 (Int.tdiv (s.size : Int) 2)) = some () := by
        have e : Int.tdiv (s.size : Int) 2 = ((s.size / 2 : Nat) : Int) := by rw [Int.tdiv_eq_ediv_of_nonneg (by omega)]; omega
        rw [e, I64_id (by omega) (by omega)]
        unfold mkO
        rw [dt (show (0 : Int) ≤ ((s.size / 2 : Nat) : Int) by omega), dt (show ((s.size / 2 : Nat) : Int) ≤ 140737488355328 by omega), dt (show ((s.size / 2 : Nat) : Int) * ((1 : Nat) : Int) ≤ 140737488355328 by omega)]
        rfl
      have hev : s.size % 2 = 0 := by
        have : ¬ s.size % 2 = 1 := fun e => h1 (.inr e)
        omega
      have hr := readL N s (by omega) (s.size / 2) 0 N [] 0 rfl (by omega) (by omega) (Nat.le_refl _)
      rw [List.drop_zero] at hr
      rw [hm, Option.bind_some, hr, Option.bind_some]
      cases bytesV (bytesI s) with
      | none => rfl
      | some r => simp [sumC]
/-! there and back -/
theorem bytesI_str {l : List Int} (h : bytesL l) : bytesI (strO l) = l := by
  unfold bytesI strO
  rw [List.toList_toArray, List.map_map]
  have : ∀ x ∈ l, ((fun b : UInt8 => (b.toNat : Int)) ∘ fun x : Int => UInt8.ofNat x.toNat) x = x := fun x hx => toB (h x hx)
  rw [List.map_congr_left this]
  simp
theorem strO_size (l : List Int) : (strO l).size = l.length := by unfold strO; rw [← size_data]; simp
theorem hexI_B {b : List Int} (hb : bytesL b) : bytesL (hexI b) := by
  intro x hx
  unfold hexI at hx
  obtain ⟨y, hy, hx⟩ := List.mem_flatMap.1 hx
  have h := hb y hy
  unfold isB at h
  simp only [List.mem_cons, List.mem_nil_iff, or_false] at hx
  rcases hx with rfl | rfl
  · exact dg_B (by omega)
  · exact dg_B (by omega)
theorem bytes_hex : ∀ b : List Int, bytesL b → bytesV (hexI b) = some b
  | [], _ => rfl
  | x :: b, h => by
    have hx := h x (by simp)
    unfold isB at hx
    have ih := bytes_hex b (fun y hy => h y (by simp [hy]))
    have e : hexI (x :: b) = dg (x / 16) :: dg (x % 16) :: hexI b := by unfold hexI; rw [List.flatMap_cons]; rfl
    rw [e, bytesV, dig_dg (by omega), dig_dg (by omega), df (by omega), df (by omega), Bool.or_self, cond_false, ih]
    simp
    omega
theorem hex_bytes : ∀ (n : Nat) (l r : List Int), l.length = 2 * n → bytesV l = some r → hexI r = l ∧ bytesL r ∧ r.length = n
  | 0, [], r, _, h => by simp [bytesV] at h; subst h; exact ⟨rfl, fun x hx => (by cases hx), rfl⟩
  | 0, _ :: _, _, hl, _ => by simp at hl
  | n + 1, [], _, hl, _ => by simp at hl
  | n + 1, [_], _, hl, _ => by simp at hl; omega
  | n + 1, c :: d :: l, r, hl, h => by
    rw [bytesV] at h
    have l1 := dig_lt c
    have l2 := dig_lt d
    by_cases c1 : dig c < 0
    · rw [dt c1, Bool.true_or, cond_true] at h; cases h
    · by_cases c2 : dig d < 0
      · rw [dt c2, Bool.or_true, cond_true] at h; cases h
      · rw [df c1, df c2, Bool.or_self, cond_false] at h
        cases hr : bytesV l with
        | none => rw [hr] at h; cases h
        | some r' =>
          rw [hr] at h
          simp only [Option.map_some, Option.some.injEq] at h
          subst h
          obtain ⟨i1, i2, i3⟩ := hex_bytes n l r' (by simp at hl; omega) hr
          have e : hexI ((16 * dig c + dig d) :: r') = dg ((16 * dig c + dig d) / 16) :: dg ((16 * dig c + dig d) % 16) :: hexI r' := by unfold hexI; rw [List.flatMap_cons]; rfl
          refine ⟨?_, ?_, by simp [i3]⟩
          · rw [e, show (16 * dig c + dig d) / 16 = dig c by omega, show (16 * dig c + dig d) % 16 = dig d by omega, dg_dig (by omega), dg_dig (by omega), i1]
          · intro x hx
            rcases List.mem_cons.1 hx with rfl | hx
            · unfold isB; omega
            · exact i2 x hx
theorem word_hex {b : List Int} (hb : bytesL b) : wordV (hexV b) = (b, 0) := by
  cases b with
  | nil => unfold hexV wordV; rw [if_pos rfl]
  | cons x b =>
    have hsz : (strO (hexI (x :: b))).size = 2 * (x :: b).length := by rw [strO_size, hexI_len]
    show wordV (strO (hexI (x :: b))) = _
    unfold wordV
    rw [if_neg (by intro e; rw [e] at hsz; simp at hsz; have : (⟨#[45]⟩ : ByteArray).size = 1 := rfl; omega), if_neg (by rw [hsz]; simp only [List.length_cons]; omega), bytesI_str (hexI_B hb), bytes_hex _ hb]
theorem hex_word {s : ByteArray} {r : List Int} (h : wordV s = (r, 0)) : hexV r = s ∧ bytesL r ∧ r.length ≤ s.size := by
  unfold wordV at h
  split at h
  · rename_i e
    cases h
    exact ⟨e.symm, fun x hx => (by cases hx), by simp⟩
  · split at h
    · cases h
    · rename_i h1 h2
      cases hv : bytesV (bytesI s) with
      | none => rw [hv] at h; cases h
      | some r' =>
        rw [hv] at h
        cases h
        have hl : (bytesI s).length = s.size := by unfold bytesI; rw [List.length_map, size_data]
        obtain ⟨i1, i2, i3⟩ := hex_bytes (s.size / 2) (bytesI s) r (by omega) hv
        refine ⟨?_, i2, by omega⟩
        have hne : r ≠ [] := by intro e; rw [e] at i3; simp at i3; omega
        have : hexV r = strO (hexI r) := by cases r with | nil => exact absurd rfl hne | cons _ _ => rfl
        rw [this, i1]
        apply ba_ext
        unfold strO bytesI
        rw [List.toList_toArray, List.map_map]
        have : ∀ x ∈ s.data.toList, ((fun x : Int => UInt8.ofNat x.toNat) ∘ fun b : UInt8 => (b.toNat : Int)) x = x := fun x _ => by simp
        rw [List.map_congr_left this]
        simp
theorem equalP (N : Nat) (b : List Int) : p_bytes_Equal N b b = some true := by
  unfold p_bytes_Equal
  rw [letO_e, tl_eq, dt rfl]
theorem wordV_err (s : ByteArray) : (wordV s).2 = 0 ∨ (wordV s).2 = 5 := by
  unfold wordV
  split
  · exact .inl rfl
  · split
    · exact .inr rfl
    · split
      · exact .inl rfl
      · exact .inr rfl
theorem works43' : p_umbralaw43_works 600 = some true := by kernel_rfl
theorem wordsHexT (b : List Int) (hb : bytesL b) (w : ByteArray) : p_umbralaw43_WordsHex 600 b w = some true := by
  unfold p_umbralaw43_WordsHex
  rw [letO_e, show (200 : Int) = ((200 : Nat) : Int) from rfl, slcO_min, Option.bind_some, letO_e, slcS_take, Option.bind_some]
  have hs : (w.extract 0 (min w.size 200)).size ≤ 200 := by
    rw [← size_data, ext_data, List.length_drop, List.length_take, size_data]
    omega
  have hb2 : bytesL (b.take 200) := fun x hx => hb x (List.mem_of_mem_take hx)
  have hl : (b.take 200).length ≤ 200 := by simp; omega
  generalize w.extract 0 (min w.size 200) = s at hs
  generalize b.take 200 = q at hb2 hl
  have hsz : (hexV q).size ≤ 410 := by
    cases q with
    | nil => decide
    | cons x q => show (strO (hexI (x :: q))).size ≤ 410; rw [strO_size, hexI_len]; omega
  rw [hexP 600 (by decide) q hb2 hl, Option.bind_some, wordP 600 (by decide) _ hsz, Option.bind_some, word_hex hb2]
  dsimp only
  rw [show ((0 : Int) != 0) = false from rfl, cond_false, equalP, Option.bind_some, Option.bind_some, Bool.not_true, cond_false, wordP 600 (by decide) s (by omega), Option.bind_some]
  rcases wordV_err s with h | h
  · have hv : wordV s = ((wordV s).1, 0) := by rw [← h]
    obtain ⟨h1, h2, h3⟩ := hex_word hv
    rw [h, show ((0 : Int) != 0) = false from rfl, cond_false, hexP 600 (by decide) _ h2 (by omega), Option.bind_some, letO_e, h1, tl_eq, dt rfl, cond_true, works43']
    rfl
  · rw [h, show ((5 : Int) != 0) = true from rfl, cond_true, works43']
    rfl
end Go.UK
