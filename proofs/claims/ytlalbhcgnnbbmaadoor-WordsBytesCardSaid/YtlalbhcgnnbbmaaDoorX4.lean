/- A part of the proof: what the functions of the program compute. -/
import Derived.Test.YtlalbhcgnnbbmaaDoorX3
namespace Go.UK
open Go Go.Proofs
set_option maxRecDepth 20000
set_option maxHeartbeats 1000000
set_option linter.all false
/-! ### the document's answers -/
def cutS (s : ByteArray) : Nat → Nat → List ByteArray → Nat → List ByteArray × Nat
  | 0, _, out, f => (out, f)
  | n + 1, p, out, f => if byteAt s p = 10 then cutS s n (p + 1) (out ++ [s.extract f p]) (p + 1) else cutS s n (p + 1) out f
theorem cut_skip (s : ByteArray) : ∀ (w n p : Nat) (out : List ByteArray) (f : Nat), w ≤ n → (∀ j, j < w → byteAt s (p + j) ≠ 10) → cutS s n p out f = cutS s (n - w) (p + w) out f
  | 0, n, p, out, f, _, _ => rfl
  | w + 1, 0, p, out, f, h, _ => by omega
  | w + 1, n + 1, p, out, f, h, hj => by
    rw [cutS, if_neg (show ¬ byteAt s p = 10 from hj 0 (by omega)), cut_skip s w n (p + 1) out f (by omega) (fun j hjw => by have := hj (j + 1) (by omega); rwa [show p + 1 + j = p + (j + 1) by omega])]
    congr 1 <;> omega
theorem cut_len (s : ByteArray) : ∀ (n p : Nat) (out : List ByteArray) (f : Nat), (cutS s n p out f).1.length ≤ out.length + n
  | 0, p, out, f => by simp [cutS]
  | n + 1, p, out, f => by
    rw [cutS]
    split
    · have := cut_len s n (p + 1) (out ++ [s.extract f p]) (p + 1)
      simp at this
      omega
    · have := cut_len s n (p + 1) out f
      omega
theorem linesC (N : Nat) (s : ByteArray) (hs : s.size ≤ 300) : ∀ (k p : Nat) (out : List ByteArray) (f : Nat), s.size - p < k → p ≤ s.size → f ≤ p → out.length ≤ p →
    p_words_Lines_L1 N s k p out (f : Int) = some (s.size, (cutS s (s.size - p) p out f).1, ((cutS s (s.size - p) p out f).2 : Int))
  | 0, _, _, _, h, _, _, _ => by omega
  | k + 1, p, out, f, hk, hps, hfp, hln => by
    rw [p_words_Lines_L1]
    by_cases h : p < s.size
    · have R := runeOK s p h
      have hpos := R.pos
      have hle := R.le
      rw [dt h, cond_true]
      by_cases h10 : byteAt s p = 10
      · have hd : Utf8.decode s p = (10, 1) := by
          have := R.low (by rw [h10]; decide)
          rw [h10] at this
          exact this
        have hr : (runeAt s p == 10) = true := by unfold runeAt; rw [hd]; rfl
        have hn : runeNext s p = p + 1 := by unfold runeNext; rw [hd]
        rw [hr, cond_true, slcS_ok hfp hps, Option.bind_some, appO_ok (by simp; omega), Option.bind_some, hn, I64_s (by omega), linesC N s hs k (p + 1) _ (p + 1) (by omega) h (Nat.le_refl _) (by simp; omega)]
        rw [show s.size - p = (s.size - (p + 1)) + 1 by omega, cutS, if_pos h10]
      · have hr : (runeAt s p == 10) = false := by
          unfold runeAt
          by_cases hlow : byteAt s p < 128
          · rw [R.low hlow]
            have : (byteAt s p).toNat ≠ 10 := fun e => h10 (UInt8.toNat_inj.1 e)
            simp
            omega
          · have := R.high hlow
            simp
            omega
        have hskip := cut_skip s (Utf8.decode s p).2 (s.size - p) p out f (by omega) (fun j hj => by
          by_cases h0 : j = 0
          · rw [h0]; exact h10
          · have := R.rest j (by omega) hj
            intro e
            rw [e] at this
            exact absurd this (by decide))
        rw [hr, cond_false, linesC N s hs k (runeNext s p) out f (by unfold runeNext; omega) hle (by unfold runeNext; omega) (by unfold runeNext; omega), hskip]
        unfold runeNext
        rw [show s.size - (p + (Utf8.decode s p).2) = s.size - p - (Utf8.decode s p).2 by omega]
    · have e : p = s.size := by omega
      subst e
      rw [df h, cond_false, Nat.sub_self]
      rfl
theorem cutR (N : Nat) (s : ByteArray) (hs : s.size ≤ 300) : ∀ (k p : Nat) (out : List ByteArray) (f : Nat), s.size - p < k → p ≤ s.size → f ≤ p → out.length ≤ p →
    p_umbraref43_cut_L1 N s 10 k out (f : Int) (p : Int) = some ((cutS s (s.size - p) p out f).1, ((cutS s (s.size - p) p out f).2 : Int))
  | 0, _, _, _, h, _, _, _ => by omega
  | k + 1, p, out, f, hk, hps, hfp, hln => by
    rw [p_umbraref43_cut_L1, letO_e]
    by_cases h : p < s.size
    · have hel : s.data.toList[p]? = some (byteAt s p) := by
        unfold byteAt
        rw [List.getElem?_eq_getElem (by rw [size_data]; exact h)]
        rfl
      rw [dt (show (p : Int) < (s.size : Int) by omega), cond_true, idx_get?, hel, Option.bind_some, letO_e, show s.size - p = (s.size - (p + 1)) + 1 by omega, cutS]
      by_cases h10 : byteAt s p = 10
      · rw [if_pos h10, h10, show (((10 : UInt8).toNat : Int) == 10) = true from rfl, cond_true, slcS_ok hfp hps, Option.bind_some, appO_ok (by simp; omega), Option.bind_some, Option.bind_some, I64_s (by omega), cutR N s hs k (p + 1) _ (p + 1) (by omega) h (Nat.le_refl _) (by simp; omega)]
      · have hne : (((byteAt s p).toNat : Int) == 10) = false := by
          refine beq_eq_false_iff_ne.2 (fun e => h10 (UInt8.toNat_inj.1 ?_))
          show _ = 10
          omega
        rw [if_neg h10, hne, cond_false, Option.bind_some, I64_s (by omega), cutR N s hs k (p + 1) out f (by omega) h (by omega) (by omega)]
    · have e : p = s.size := by omega
      subst e
      rw [df (show ¬ (s.size : Int) < (s.size : Int) by omega), cond_false, Nat.sub_self]
      rfl
theorem lines_same (N : Nat) (hN : 400 < N) (s : ByteArray) (hs : s.size ≤ 300) : ∃ R, p_words_Lines N s = some R ∧ p_umbraref43_Lines N s = some R ∧ R.length ≤ 400 := by
  have h1 : p_words_Lines_L1 N s N 0 [] 0 = _ := linesC N s hs N 0 [] 0 (by omega) (by omega) (by omega) (by simp)
  have h2 : p_umbraref43_cut_L1 N s 10 N [] 0 0 = _ := cutR N s hs N 0 [] 0 (by omega) (by omega) (by omega) (by simp)
  have hl := cut_len s (s.size - 0) 0 [] 0
  unfold p_words_Lines p_umbraref43_Lines p_umbraref43_cut
  rw [h1, h2, Option.bind_some, Option.bind_some, letO_e, letO_e, letO_e]
  generalize hc : cutS s (s.size - 0) 0 [] 0 = c at *
  dsimp only
  rw [cond_false]
  by_cases h : ((c.2 : Nat) : Int) < (s.size : Int)
  · have ha : appO 16 c.1 [s.extract c.2 s.size] = some (c.1 ++ [s.extract c.2 s.size]) := appO_ok (by simp at hl ⊢; omega)
    rw [dt h, cond_true, slcS_ok (by omega) (Nat.le_refl _)]
    simp only [Option.bind_some, ha]
    exact ⟨_, rfl, rfl, by simp at hl ⊢; omega⟩
  · rw [df h, cond_false]
    exact ⟨_, rfl, rfl, by simp at hl; omega⟩
theorem digitR : ∀ c : Fin 256, p_umbraref43_digit 600 (c.val : Int) = some (dig (c.val : Int)) := by decide +kernel
theorem digitR' (s : ByteArray) (p : Nat) : p_umbraref43_digit 600 ((byteAt s p).toNat : Int) = some (dig (cAt s p)) := digitR ⟨(byteAt s p).toNat, UInt8.toNat_lt _⟩
theorem readR (s : ByteArray) (hs : s.size ≤ 1000) : ∀ (m p k : Nat) (O : List Int), p + 2 * m = s.size → m < k → O.length ≤ p →
    p_umbraref43_Bytes_L1 600 s k O (p : Int) = some (match bytesV ((bytesI s).drop p) with | some r => Sum.inl (O ++ r) | none => Sum.inr (([], 5) : List Int × Int))
  | _, _, 0, _, _, h, _ => by omega
  | 0, p, k + 1, O, hm, hk, hO => by
    have e : p = s.size := by omega
    subst e
    have hd : (bytesI s).drop s.size = [] := List.drop_of_length_le (by unfold bytesI; rw [List.length_map, size_data]; omega)
    rw [p_umbraref43_Bytes_L1, letO_e, df (by omega), cond_false, hd]
    simp [bytesV]
  | m + 1, p, k + 1, O, hm, hk, hO => by
    have h1 : p < s.size := by omega
    have h2 : p + 1 < s.size := by omega
    have hel : ∀ q, q < s.size → s.data.toList[q]? = some (byteAt s q) := by
      intro q hq
      unfold byteAt
      rw [List.getElem?_eq_getElem (by rw [size_data]; exact hq)]
      rfl
    have l1 := dig_lt (cAt s p)
    have l2 := dig_lt (cAt s (p + 1))
    rw [bytesI_at s p h1, bytesI_at s (p + 1) h2, bytesV, p_umbraref43_Bytes_L1, letO_e, dt (show (p : Int) < (s.size : Int) by omega), cond_true, idx_get?, hel p h1, Option.bind_some, digitR', Option.bind_some, I64_s (by omega), idx_get?, hel _ h2, Option.bind_some, digitR', Option.bind_some, letO_e]
    by_cases c1 : dig (cAt s p) < 0
    · rw [dt c1, cond_true, cond_true, Bool.true_or, cond_true]
    · by_cases c2 : dig (cAt s (p + 1)) < 0
      · rw [df c1, cond_false, dt c2, cond_true, Bool.or_true, cond_true]
      · have e2 : I64 ((p : Int) + 2) = ((p + 1 + 1 : Nat) : Int) := by rw [I64_id (by omega) (by omega)]; omega
        have e3 : U8 (I64 (I64 (16 * dig (cAt s p)) + dig (cAt s (p + 1)))) = 16 * dig (cAt s p) + dig (cAt s (p + 1)) := by
          rw [I64_id (x := 16 * dig (cAt s p)) (by omega) (by omega), I64_id (by omega) (by omega)]
          show IntKind.u8.wrap _ = _
          rw [IntKind.wrap_u8]
          omega
        rw [df c1, cond_false, df c2, cond_false, letO_e, e3, appO_ok (by simp; omega), Option.bind_some, e2, Bool.or_self, cond_false, readR s hs m (p + 1 + 1) k _ (by omega) (by omega) (by simp; omega)]
        cases bytesV (List.drop (p + 1 + 1) (bytesI s)) with
        | none => rfl
        | some r => simp
theorem wordR (s : ByteArray) (hs : s.size ≤ 410) : p_umbraref43_Bytes 600 s = some (wordV s) := by
  unfold p_umbraref43_Bytes wordV
  rw [letO_e, tl_eq]
  by_cases h : s = ⟨#[45]⟩
  · rw [dt h, cond_true, if_pos h]
  · rw [df h, cond_false, if_neg h, letO_e, letO_e]
    have t : Int.tmod (s.size : Int) 2 = ((s.size % 2 : Nat) : Int) := by rw [Int.tmod_eq_emod_of_nonneg (by omega)]; omega
    rw [t]
    by_cases h1 : s.size = 0 ∨ s.size % 2 = 1
    · rw [if_pos h1, letO_e]
      have : (cond ((s.size : Int) == 0) true (((s.size % 2 : Nat) : Int) != 0)) = true := by
        rcases h1 with h1 | h1
        · rw [h1]; rfl
        · rw [h1]; cases ((s.size : Int) == 0) <;> rfl
      rw [this, cond_true]
    · have hev : s.size % 2 = 0 := by
        have : ¬ s.size % 2 = 1 := fun e => h1 (.inr e)
        omega
      rw [if_neg h1, letO_e, hev]
      rw [show ((s.size : Int) == 0) = false from beq_eq_false_iff_ne.2 (fun e => h1 (.inl (by omega))), cond_false, show (((0 : Nat) : Int) != 0) = false from rfl, cond_false]
      have hr : p_umbraref43_Bytes_L1 600 s 600 [] 0 = _ := readR s (by omega) (s.size / 2) 0 600 [] (by omega) (by omega) (Nat.le_refl _)
      rw [List.drop_zero] at hr
      rw [hr, Option.bind_some]
      cases bytesV (bytesI s) with
      | none => rfl
      | some r => simp [sumC]
theorem hexStepR : ∀ x : Fin 256, idx str_8.data.toList (U8 (Int.tdiv (x.val : Int) 16)) = some (UInt8.ofNat (dg ((x.val : Int) / 16)).toNat) ∧ idx str_8.data.toList (Int.tmod (x.val : Int) 16) = some (UInt8.ofNat (dg ((x.val : Int) % 16)).toNat) := by decide +kernel
theorem hexLR (N : Nat) (b : List Int) (hb : bytesL b) (hl : b.length ≤ 1000) : ∀ (k i : Nat) (z : List Int), i ≤ b.length → b.length - i < k → z = hexI (b.take i) → p_umbraref43_Hex_L1 N b k z (i : Int) = some (hexI b)
  | 0, _, _, _, h, _ => by omega
  | k + 1, i, z, hi, hk, hz => by
    rw [p_umbraref43_Hex_L1, letO_e]
    by_cases h : i < b.length
    · have hx := hb _ (List.getElem_mem h)
      obtain ⟨X, hX⟩ := Int.eq_ofNat_of_zero_le hx.1
      have hX2 : X < 256 := by have := hx.2; omega
      obtain ⟨e1, e2⟩ := hexStepR ⟨X, hX2⟩
      dsimp only at e1 e2
      have hzl : z.length = 2 * i := by rw [hz, hexI_len, List.length_take]; omega
      rw [dt (show (i : Int) < (b.length : Int) by omega), cond_true, idx_at h, Option.bind_some, hX, e1, Option.bind_some, Option.bind_some, e2, Option.bind_some, toB (dg_B (by omega)), toB (dg_B (by omega)), appO_ok (by simp; omega), Option.bind_some, I64_s (by omega)]
      refine hexLR N b hb hl k (i + 1) _ (by omega) (by omega) ?_
      rw [List.take_succ_eq_append_getElem h, hz, hX]
      unfold hexI
      rw [List.flatMap_append]
      simp
    · rw [df (show ¬ (i : Int) < (b.length : Int) by omega), cond_false, hz, List.take_of_length_le (by omega)]
theorem hexR (N : Nat) (hN : 300 < N) (b : List Int) (hb : bytesL b) (hl : b.length ≤ 200) : p_umbraref43_Hex N b = some (hexV b) := by
  unfold p_umbraref43_Hex
  cases b with
  | nil => rfl
  | cons x b =>
    rw [letO_e, show (((x :: b).length : Int) == 0) = false by simp; omega, cond_false]
    have h : p_umbraref43_Hex_L1 N (x :: b) N [] 0 = _ := hexLR N (x :: b) hb (by omega) N 0 [] (by omega) (by omega) rfl
    rw [h]
    rfl
theorem sameL1 (N : Nat) (R : List ByteArray) (hR : R.length ≤ 500) : ∀ (k i : Nat), i ≤ R.length → R.length - i < k → p_umbralaw43_WordsBytes_L1 N R R k (i : Int) = some (Sum.inl ())
  | 0, _, _, h => by omega
  | k + 1, i, hi, hk => by
    rw [p_umbralaw43_WordsBytes_L1, letO_e]
    by_cases h : i < R.length
    · rw [dt (show (i : Int) < (R.length : Int) by omega), cond_true, idx_at h, Option.bind_some, Option.bind_some, letO_e, tl_eq, dt rfl, Bool.not_true, cond_false, I64_s (by omega)]
      exact sameL1 N R hR k (i + 1) (by omega) (by omega)
    · rw [df (show ¬ (i : Int) < (R.length : Int) by omega), cond_false]
theorem wordsBytesT (b : List Int) (hb : bytesL b) (w text : ByteArray) : p_umbralaw43_WordsBytes 600 b w text = some true := by
  unfold p_umbralaw43_WordsBytes
  rw [letO_e, show (200 : Int) = ((200 : Nat) : Int) from rfl, show (300 : Int) = ((300 : Nat) : Int) from rfl, slcO_min, Option.bind_some, letO_e, slcS_take, Option.bind_some, letO_e, slcS_take, Option.bind_some]
  have hs : (w.extract 0 (min w.size 200)).size ≤ 200 := by
    rw [← size_data, ext_data, List.length_drop, List.length_take, size_data]
    omega
  have ht : (text.extract 0 (min text.size 300)).size ≤ 300 := by
    rw [← size_data, ext_data, List.length_drop, List.length_take, size_data]
    omega
  have hb2 : bytesL (b.take 200) := fun x hx => hb x (List.mem_of_mem_take hx)
  have hl : (b.take 200).length ≤ 200 := by simp; omega
  generalize w.extract 0 (min w.size 200) = s at hs
  generalize text.extract 0 (min text.size 300) = t at ht
  generalize b.take 200 = q at hb2 hl
  obtain ⟨R, r1, r2, r3⟩ := lines_same 600 (by decide) t ht
  have hL : p_umbralaw43_WordsBytes_L1 600 R R 600 0 = _ := sameL1 600 R (by omega) 600 0 (by omega) (by omega)
  rw [wordP 600 (by decide) s (by omega), Option.bind_some, wordR s (by omega), Option.bind_some, r1, Option.bind_some, r2, Option.bind_some, letO_e, show ((R.length : Int) != (R.length : Int)) = false by simp, cond_false, hL, Option.bind_some]
  unfold sumC
  dsimp only
  rw [hexP 600 (by decide) q hb2 hl, Option.bind_some, hexR 600 (by decide) q hb2 hl, Option.bind_some, letO_e, tl_eq, dt rfl, cond_true, equalP, Option.bind_some, letO_e, cond_true, show ((wordV s).2 == (wordV s).2) = true by simp, cond_true, works43']
  rfl
end Go.UK
