/- A part of the proof: what the functions of the program compute. -/
import Derived.Test.YtlalbhcgnnbbmaaDoorX1
namespace Go.UK
open Go Go.Proofs
set_option maxRecDepth 20000
set_option maxHeartbeats 1000000
set_option linter.all false
theorem slcS_ok {s : ByteArray} {f p : Nat} (h1 : f ≤ p) (h2 : p ≤ s.size) : slcS s (f : Int) (p : Int) = some (s.extract f p) := by
  unfold slcS
  rw [dt (show (0 : Int) ≤ (f : Int) by omega), dt (show (f : Int) ≤ (p : Int) by omega), dt (show (p : Int) ≤ (s.size : Int) by omega)]
  rfl
theorem ext_data (s : ByteArray) (f p : Nat) : (s.extract f p).data.toList = (s.data.toList.take p).drop f := by
  rw [ByteArray.data_extract, Array.toList_extract]
  rw [List.extract_eq_drop_take, List.drop_take]
theorem size_data (s : ByteArray) : s.data.toList.length = s.size := by simp
theorem ba_ext {a b : ByteArray} (h : a.data.toList = b.data.toList) : a = b := by
  cases a; cases b
  congr 1
  exact Array.toList_inj.1 h
def nl (l : ByteArray) : List UInt8 := l.data.toList ++ [10]
structure LI (s : ByteArray) (p : Nat) (out : List ByteArray) (f : Nat) : Prop where
  fp : f ≤ p
  ps : p ≤ s.size
  cat : (out.map nl).flatten = s.data.toList.take f
  no : ∀ l ∈ out, (10 : UInt8) ∉ l.data.toList
  gap : ∀ i, f ≤ i → i < p → byteAt s i ≠ 10
  len : out.length ≤ f
  sz : ∀ l ∈ out, l.size ≤ s.size
theorem no10 {s : ByteArray} {f p : Nat} (h : ∀ i, f ≤ i → i < p → byteAt s i ≠ 10) : (10 : UInt8) ∉ (s.extract f p).data.toList := by
  rw [ext_data]
  intro hm
  obtain ⟨j, hj⟩ := List.mem_iff_getElem?.1 hm
  rw [List.getElem?_drop, List.getElem?_take] at hj
  split at hj
  · rename_i hlt
    refine h (f + j) (by omega) hlt ?_
    unfold byteAt
    rw [hj]
    rfl
  · cases hj
theorem ext_size (s : ByteArray) (f p : Nat) : (s.extract f p).size ≤ s.size := by
  rw [← size_data, ext_data, List.length_drop, List.length_take, size_data]
  omega
theorem cat_ext {s : ByteArray} {f p : Nat} (h1 : f ≤ p) : s.data.toList.take f ++ (s.extract f p).data.toList = s.data.toList.take p := by
  rw [ext_data]
  have : s.data.toList.take f = (s.data.toList.take p).take f := by rw [List.take_take]; congr 1; omega
  rw [this, List.take_append_drop]
theorem linesL (N : Nat) (s : ByteArray) (hs : s.size ≤ 300) : ∀ (k p : Nat) (out : List ByteArray) (f : Nat), s.size - p < k → LI s p out f → ∃ (out' : List ByteArray) (f' : Nat), p_words_Lines_L1 N s k p out (f : Int) = some (s.size, out', (f' : Int)) ∧ LI s s.size out' f'
  | 0, _, _, _, h, _ => by omega
  | k + 1, p, out, f, hk, I => by
    rw [p_words_Lines_L1]
    have hfp := I.fp
    have hps := I.ps
    have hln := I.len
    by_cases h : p < s.size
    · have R := runeOK s p h
      have hpos := R.pos
      have hle := R.le
      rw [dt h, cond_true]
      have hel : s.data.toList[p]? = some (byteAt s p) := by
        unfold byteAt
        rw [List.getElem?_eq_getElem (by rw [size_data]; exact h)]
        rfl
      by_cases h10 : byteAt s p = 10
      · have hd : Utf8.decode s p = (10, 1) := by
          have := R.low (by rw [h10]; decide)
          rw [h10] at this
          exact this
        have hr : (runeAt s p == 10) = true := by unfold runeAt; rw [hd]; rfl
        have hn : runeNext s p = p + 1 := by unfold runeNext; rw [hd]
        rw [hr, cond_true, slcS_ok hfp hps, Option.bind_some, appO_ok (by simp; omega), Option.bind_some, hn, I64_s (by omega)]
        refine linesL N s hs k (p + 1) _ (p + 1) (by omega) ⟨Nat.le_refl _, h, ?_, ?_, fun i h1 h2 => by omega, by simp; omega, ?_⟩
        · rw [List.map_append, List.flatten_append, I.cat]
          simp only [List.map_cons, List.map_nil, List.flatten_cons, List.flatten_nil, List.append_nil, nl]
          rw [← List.append_assoc, cat_ext hfp, List.take_succ, hel, h10]
          rfl
        · intro l hl
          rcases List.mem_append.1 hl with hl | hl
          · exact I.no l hl
          · simp only [List.mem_singleton] at hl; rw [hl]; exact no10 I.gap
        · intro l hl
          rcases List.mem_append.1 hl with hl | hl
          · exact I.sz l hl
          · simp only [List.mem_singleton] at hl; rw [hl]; exact ext_size _ _ _
      · have hr : (runeAt s p == 10) = false := by
          unfold runeAt
          by_cases hlow : byteAt s p < 128
          · rw [R.low hlow]
            have : (byteAt s p).toNat ≠ 10 := fun e => h10 (UInt8.toNat_inj.1 e)
            simp
            omega
          · have := R.high hlow
            simp
            omega
        rw [hr, cond_false]
        refine linesL N s hs k (runeNext s p) _ f (by unfold runeNext; omega) ⟨by unfold runeNext; omega, hle, I.cat, I.no, ?_, I.len, I.sz⟩
        intro i h1 h2
        by_cases hi : i < p
        · exact I.gap i h1 hi
        · by_cases hi2 : i = p
          · rw [hi2]; exact h10
          · have := R.rest (i - p) (by omega) (by unfold runeNext at h2; omega)
            rw [show p + (i - p) = i by omega] at this
            intro e
            rw [e] at this
            exact absurd this (by decide)
    · have e : p = s.size := by omega
      subst e
      rw [df h, cond_false]
      exact ⟨out, f, rfl, I⟩
structure LinesOK (s : ByteArray) (R : List ByteArray) : Prop where
  no : ∀ l ∈ R, (10 : UInt8) ∉ l.data.toList
  sz : ∀ l ∈ R, l.size ≤ s.size
  len : R.length ≤ s.size + 1
  cat : (R.map nl).flatten = s.data.toList ∨ (R.map nl).flatten = s.data.toList ++ [10]
theorem linesT (N : Nat) (hN : 300 < N) (s : ByteArray) (hs : s.size ≤ 300) : ∃ R, p_words_Lines N s = some R ∧ LinesOK s R := by
  unfold p_words_Lines
  obtain ⟨out, f, h1, I⟩ := linesL N s hs N 0 [] 0 (by omega) ⟨Nat.le_refl _, by omega, rfl, fun l h => (by cases h), fun i a b => (by omega), Nat.le_refl _, fun l h => (by cases h)⟩
  have h1 : p_words_Lines_L1 N s N 0 [] 0 = _ := h1
  have hf := I.fp
  have hl := I.len
  rw [h1, Option.bind_some, letO_e]
  dsimp only
  by_cases h : f < s.size
  · rw [dt (show (f : Int) < (s.size : Int) by omega), cond_true, slcS_ok hf (Nat.le_refl _), Option.bind_some, appO_ok (by simp; omega), Option.bind_some, Option.bind_some]
    refine ⟨_, rfl, ?_, ?_, by simp; omega, .inr ?_⟩
    · intro l hl
      rcases List.mem_append.1 hl with hl | hl
      · exact I.no l hl
      · simp only [List.mem_singleton] at hl; rw [hl]; exact no10 I.gap
    · intro l hl
      rcases List.mem_append.1 hl with hl | hl
      · exact I.sz l hl
      · simp only [List.mem_singleton] at hl; rw [hl]; exact ext_size _ _ _
    · rw [List.map_append, List.flatten_append, I.cat]
      simp only [List.map_cons, List.map_nil, List.flatten_cons, List.flatten_nil, List.append_nil, nl]
      rw [← List.append_assoc, cat_ext hf, List.take_of_length_le (by rw [size_data]; omega)]
  · rw [df (show ¬ (f : Int) < (s.size : Int) by omega), cond_false, Option.bind_some]
    refine ⟨out, rfl, I.no, I.sz, by omega, .inl ?_⟩
    rw [I.cat, List.take_of_length_le (by rw [size_data]; omega)]
theorem noL2 (N : Nat) (e : ByteArray) (he : (10 : UInt8) ∉ e.data.toList) (hs : e.size ≤ 300) : ∀ (k j : Nat), j ≤ e.size → e.size - j < k → p_umbralaw43_WordsLines_L2 N ((bytesI e).length : Int) e k (j : Int) = some (Sum.inl ())
  | 0, _, _, h => by omega
  | k + 1, j, hj, hk => by
    have hlen : (bytesI e).length = e.size := by unfold bytesI; rw [List.length_map, size_data]
    rw [p_umbralaw43_WordsLines_L2]
    by_cases h : j < e.size
    · rw [dt (by omega), cond_true, idx_at (by omega), Option.bind_some]
      have hne : ((bytesI e)[j]'(by omega) == 10) = false := by
        unfold bytesI
        rw [List.getElem_map]
        have hm : e.data.toList[j]'(by rw [size_data]; exact h) ∈ e.data.toList := List.getElem_mem _
        simp only [beq_eq_false_iff_ne, ne_eq]
        intro hx
        have : (e.data.toList[j]'(by rw [size_data]; exact h)).toNat = 10 := by omega
        exact he (by rw [← show e.data.toList[j]'(by rw [size_data]; exact h) = (10 : UInt8) from UInt8.toNat_inj.1 this]; exact hm)
      rw [hne, cond_false, I64_s (by omega)]
      exact noL2 N e he hs k (j + 1) (by omega) (by omega)
    · rw [df (by omega), cond_false]
theorem catO_ok {x y : ByteArray} (h : x.size + y.size ≤ 9223372036854775807) : catO x y = some (x ++ y) := by
  unfold catO
  rw [dt h]
  rfl
theorem app_data (a b : ByteArray) : (a ++ b).data.toList = a.data.toList ++ b.data.toList := by
  rw [ByteArray.data_append, Array.toList_append]
theorem linesL1 (N : Nat) (hN : 300 < N) (R : List ByteArray) (h10 : ∀ l ∈ R, (10 : UInt8) ∉ l.data.toList) (hsz : ∀ l ∈ R, l.size ≤ 300) (hR : R.length ≤ 400) (hT : (R.map nl).flatten.length ≤ 400) : ∀ (k i : Nat) (b : ByteArray), i ≤ R.length → R.length - i < k → b.data.toList = ((R.take i).map nl).flatten →
    ∃ b', p_umbralaw43_WordsLines_L1 N R k b (i : Int) = some (Sum.inl b') ∧ b'.data.toList = (R.map nl).flatten
  | 0, _, _, _, h, _ => by omega
  | k + 1, i, b, hi, hk, hb => by
    rw [p_umbralaw43_WordsLines_L1, letO_e]
    by_cases h : i < R.length
    · have hm := List.getElem_mem h
      have hs := hsz _ hm
      have hbl : b.size ≤ 400 := by
        rw [← size_data, hb]
        have e : (R.map nl).flatten = ((R.take i).map nl).flatten ++ ((R.drop i).map nl).flatten := by rw [← List.flatten_append, ← List.map_append, List.take_append_drop]
        rw [e, List.length_append] at hT
        omega
      have h2 : p_umbralaw43_WordsLines_L2 N ((bytesI R[i]).length : Int) R[i] N 0 = _ := noL2 N R[i] (h10 _ hm) hs N 0 (by omega) (by omega)
      have s1 : (⟨#[10]⟩ : ByteArray).size = 1 := rfl
      have s2 : (R[i] ++ (⟨#[10]⟩ : ByteArray)).size ≤ 301 := by rw [← size_data, app_data, List.length_append, size_data]; simp; omega
      rw [dt (show (i : Int) < (R.length : Int) by omega), cond_true, idx_at h, Option.bind_some, letO_e, h2, Option.bind_some]
      unfold sumC
      dsimp only
      rw [catO_ok (by omega), Option.bind_some, catO_ok (by omega), Option.bind_some, I64_s (by omega)]
      refine linesL1 N hN R h10 hsz hR hT k (i + 1) _ (by omega) (by omega) ?_
      rw [app_data, hb, app_data, List.take_succ_eq_append_getElem h, List.map_append, List.flatten_append]
      simp [nl]
    · rw [df (show ¬ (i : Int) < (R.length : Int) by omega), cond_false]
      exact ⟨b, rfl, by rw [hb, List.take_of_length_le (by omega)]⟩
theorem wordsLinesT (text : ByteArray) : p_umbralaw43_WordsLines 400 text = some true := by
  unfold p_umbralaw43_WordsLines
  rw [letO_e, show (300 : Int) = ((300 : Nat) : Int) from rfl, slcS_take, Option.bind_some]
  have hs : (text.extract 0 (min text.size 300)).size ≤ 300 := by
    rw [← size_data, ext_data, List.length_drop, List.length_take, size_data]
    omega
  generalize text.extract 0 (min text.size 300) = s at hs
  obtain ⟨R, h1, I⟩ := linesT 400 (by decide) s hs
  have hT : (R.map nl).flatten.length ≤ 400 := by
    rcases I.cat with e | e
    · rw [e, size_data]; omega
    · rw [e, List.length_append, size_data]; simp; omega
  have hlen := I.len
  obtain ⟨b, b1, b2⟩ := linesL1 400 (by decide) R I.no (fun l hl => Nat.le_trans (I.sz l hl) hs) (by omega) hT 400 0 ⟨#[]⟩ (by omega) (by omega) rfl
  have b1 : p_umbralaw43_WordsLines_L1 400 R 400 (ByteArray.mk #[]) 0 = _ := b1
  rw [h1, Option.bind_some, b1, Option.bind_some]
  unfold sumC
  dsimp only
  rw [letO_e]
  cases he : (ByteArray.toList b == ByteArray.toList s) with
  | true => rw [cond_true, works43]; rfl
  | false =>
    have s1 : (⟨#[10]⟩ : ByteArray).size = 1 := rfl
    rw [cond_false, catO_ok (by omega), Option.bind_some, letO_e]
    have : b = s ++ ⟨#[10]⟩ := by
      rcases I.cat with e | e
      · have : b = s := ba_ext (by rw [b2, e])
        rw [this] at he
        simp at he
      · exact ba_ext (by rw [b2, e, app_data])
    rw [this, show (ByteArray.toList (s ++ ⟨#[10]⟩) == ByteArray.toList (s ++ ⟨#[10]⟩)) = true by simp, cond_true, works43]
    rfl
end Go.UK
