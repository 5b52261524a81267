/- A part of the proof: what the functions of the program compute. -/
import Derived.Test.YtlalbhcgnnbbmaaDoorX0
import Derived.Test.YtlalbhcgnnbbmaaDoorQ3
namespace Go.UK
open Go Go.Proofs
set_option maxRecDepth 20000
set_option maxHeartbeats 1000000
set_option linter.all false
/-! ### letters of a text -/
theorem get!_data (s : ByteArray) (i : Nat) (h : i < s.size) : s.get! i = s.data.toList[i]'(by simpa using h) := by
  have h' : i < s.data.size := h
  show s.data[i]! = _
  rw [getElem!_pos s.data i h']
  simp
def byteAt (s : ByteArray) (i : Nat) : UInt8 := (s.data.toList[i]?).getD 0
theorem byteAt_get (s : ByteArray) (i : Nat) (h : i < s.size) : s.get! i = byteAt s i := by
  rw [get!_data s i h]
  unfold byteAt
  rw [List.getElem?_eq_getElem (by simpa using h)]
  rfl
structure RuneOK (s : ByteArray) (p : Nat) : Prop where
  pos : 1 ≤ (Utf8.decode s p).2
  le : p + (Utf8.decode s p).2 ≤ s.size
  low : byteAt s p < 128 → Utf8.decode s p = ((byteAt s p).toNat, 1)
  high : ¬ byteAt s p < 128 → 128 ≤ (Utf8.decode s p).1
  rest : ∀ j, 1 ≤ j → j < (Utf8.decode s p).2 → 128 ≤ (byteAt s (p + j)).toNat
theorem ult (x : UInt8) : x < 128 ↔ x.toNat < 128 := Iff.rfl
theorem runeOK (s : ByteArray) (p : Nat) (h : p < s.size) : RuneOK s p := by
  have e0 : s.get! (p + 0) = byteAt s p := byteAt_get s p h
  have hc : ∀ k, (decide (p + k < s.size) && ((s.get! (p + k)).toNat / 64 == 2)) = true → p + k < s.size ∧ 128 ≤ (byteAt s (p + k)).toNat := by
    intro k hk
    simp only [Bool.and_eq_true, decide_eq_true_eq, beq_iff_eq] at hk
    obtain ⟨k1, k2⟩ := hk
    rw [byteAt_get s _ k1] at k2
    exact ⟨k1, by omega⟩
  have key : ∀ r : Nat × Nat, Utf8.decode s p = r → (byteAt s p < 128 ∧ r = ((byteAt s p).toNat, 1)) ∨ (¬ byteAt s p < 128 ∧ 128 ≤ r.1 ∧ ((r.2 = 1) ∨ (r.2 = 2 ∧ (p + 1 < s.size ∧ 128 ≤ (byteAt s (p + 1)).toNat)) ∨ (r.2 = 3 ∧ (p + 1 < s.size ∧ 128 ≤ (byteAt s (p + 1)).toNat) ∧ (p + 2 < s.size ∧ 128 ≤ (byteAt s (p + 2)).toNat)) ∨ (r.2 = 4 ∧ (p + 1 < s.size ∧ 128 ≤ (byteAt s (p + 1)).toNat) ∧ (p + 2 < s.size ∧ 128 ≤ (byteAt s (p + 2)).toNat) ∧ (p + 3 < s.size ∧ 128 ≤ (byteAt s (p + 3)).toNat)))) := by
    intro r hr
    unfold Utf8.decode at hr
    dsimp only at hr
    have e0' : (s.get! (p + 0)).toNat = (byteAt s p).toNat := by rw [e0]
    split at hr
    · rename_i h0
      left
      refine ⟨?_, ?_⟩
      · show (byteAt s p).toNat < 128
        rw [← e0']; exact h0
      · rw [← hr, e0']
    · rename_i h0
      right
      refine ⟨fun hh => h0 (by rw [e0']; exact hh), ?_⟩
      have er : Utf8.runeError = 65533 := rfl
      split at hr
      · rename_i hb
        simp only [Bool.and_eq_true] at hb
        have c1 := hc 1 (by simpa using hb.2)
        split at hr
        · subst hr; exact ⟨by dsimp only; omega, .inr (.inl ⟨rfl, c1⟩)⟩
        · subst hr; exact ⟨by dsimp only; omega, .inl rfl⟩
      · split at hr
        · rename_i hb
          simp only [Bool.and_eq_true] at hb
          have c1 := hc 1 (by simpa using hb.1.2)
          have c2 := hc 2 (by simpa using hb.2)
          split at hr
          · rename_i hv
            simp only [Bool.and_eq_true, decide_eq_true_eq] at hv
            subst hr; exact ⟨by dsimp only; omega, .inr (.inr (.inl ⟨rfl, c1, c2⟩))⟩
          · subst hr; exact ⟨by dsimp only; omega, .inl rfl⟩
        · split at hr
          · rename_i hb
            simp only [Bool.and_eq_true] at hb
            have c1 := hc 1 (by simpa using hb.1.1.2)
            have c2 := hc 2 (by simpa using hb.1.2)
            have c3 := hc 3 (by simpa using hb.2)
            split at hr
            · rename_i hv
              simp only [Bool.and_eq_true, decide_eq_true_eq] at hv
              subst hr; exact ⟨by dsimp only; omega, .inr (.inr (.inr ⟨rfl, c1, c2, c3⟩))⟩
            · subst hr; exact ⟨by dsimp only; omega, .inl rfl⟩
          · subst hr; exact ⟨by dsimp only; omega, .inl rfl⟩
  have K := key _ rfl
  refine ⟨?_, ?_, ?_, ?_, ?_⟩
  · rcases K with ⟨_, e⟩ | ⟨_, _, e | ⟨e, _⟩ | ⟨e, _⟩ | ⟨e, _⟩⟩
    · rw [e]; omega
    all_goals (rw [e]; omega)
  · rcases K with ⟨_, e⟩ | ⟨_, _, e | ⟨e, c1⟩ | ⟨e, c1, c2⟩ | ⟨e, c1, c2, c3⟩⟩
    · rw [e]; dsimp only; omega
    all_goals (rw [e]; omega)
  · intro hl
    rcases K with ⟨_, e⟩ | ⟨hh, _⟩
    · exact e
    · exact absurd hl hh
  · intro hl
    rcases K with ⟨hh, _⟩ | ⟨_, h2, _⟩
    · exact absurd hh hl
    · exact h2
  · intro j j1 j2
    rcases K with ⟨_, e⟩ | ⟨_, _, e | ⟨e, c1⟩ | ⟨e, c1, c2⟩ | ⟨e, c1, c2, c3⟩⟩
    · rw [e] at j2; dsimp only at j2; omega
    · rw [e] at j2; omega
    · rw [e] at j2
      obtain rfl : j = 1 := by omega
      exact c1.2
    · rw [e] at j2
      rcases (show j = 1 ∨ j = 2 by omega) with rfl | rfl
      · exact c1.2
      · exact c2.2
    · rw [e] at j2
      rcases (show j = 1 ∨ j = 2 ∨ j = 3 by omega) with rfl | rfl | rfl
      · exact c1.2
      · exact c2.2
      · exact c3.2
end Go.UK
