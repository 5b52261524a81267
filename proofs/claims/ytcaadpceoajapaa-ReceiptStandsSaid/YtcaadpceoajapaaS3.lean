/- A part of the proof: what the functions of the program compute. -/
import Derived.Test.YtcaadpceoajapaaS2
namespace Go.UK
open Go Go.Proofs
set_option maxRecDepth 20000
set_option maxHeartbeats 2000000
set_option linter.all false
/-! ### blocks of a message -/
def H0 : Vector Int 8 := #v[1779033703, 3144134277, 1013904242, 2773480762, 1359893119, 2600822924, 528734635, 1541459225]
def blockAt (m : List Int) (j : Nat) : Vector Int 64 := Vector.ofFn (fun i : Fin 64 => m.getD (64 * j + i.val) 0)
theorem blockAt_get (m : List Int) (j i : Nat) (h : i < 64) : (blockAt m j).toList.getD i 0 = m.getD (64 * j + i) 0 := by
  rw [getD_vec _ i h]
  unfold blockAt
  simp
theorem blk_ext {a b : Vector Int 64} (h : ∀ i, i < 64 → a.toList.getD i 0 = b.toList.getD i 0) : a = b := by
  apply Vector.ext
  intro i hi
  have := h i hi
  rwa [getD_vec _ i hi, getD_vec _ i hi] at this
def bytesL (m : List Int) : Prop := ∀ x ∈ m, isB x
theorem bytesL.app {a b : List Int} (ha : bytesL a) (hb : bytesL b) : bytesL (a ++ b) := fun x hx => by
  rcases List.mem_append.1 hx with h | h
  · exact ha x h
  · exact hb x h
theorem bytesL.getD {m : List Int} (h : bytesL m) (i : Nat) : isB (m.getD i 0) := by
  rw [List.getD_eq_getElem?_getD]
  by_cases hi : i < m.length
  · rw [List.getElem?_eq_getElem hi]; exact h _ (List.getElem_mem hi)
  · rw [List.getElem?_eq_none (by omega)]; exact ⟨by simp, by simp⟩
theorem bytesL.take {m : List Int} (h : bytesL m) (n : Nat) : bytesL (m.take n) := fun x hx => h x (List.mem_of_mem_take hx)
theorem bytesL.drop {m : List Int} (h : bytesL m) (n : Nat) : bytesL (m.drop n) := fun x hx => h x (List.mem_of_mem_drop hx)
theorem bytesL.block {m : List Int} (h : bytesL m) (j : Nat) : byteBlock (blockAt m j) := fun i hi => by rw [blockAt_get _ _ _ hi]; exact h.getD _
def blks (m : List Int) : Nat → Vector Int 8
  | 0 => H0
  | j + 1 => cmpV (blks m j) (blockAt m j)
theorem getD_app_lt {m x : List Int} {i : Nat} (h : i < m.length) : (m ++ x).getD i 0 = m.getD i 0 := by
  rw [List.getD_eq_getElem?_getD, List.getD_eq_getElem?_getD, List.getElem?_append_left h]
theorem getD_app_ge {m x : List Int} {i : Nat} (h : m.length ≤ i) : (m ++ x).getD i 0 = x.getD (i - m.length) 0 := by
  rw [List.getD_eq_getElem?_getD, List.getD_eq_getElem?_getD, List.getElem?_append_right h]
attribute [local irreducible] cmpV
theorem blks_app (m x : List Int) : ∀ j, 64 * j ≤ m.length → blks (m ++ x) j = blks m j
  | 0, _ => rfl
  | j + 1, h => by
    have e : blockAt (m ++ x) j = blockAt m j := by
      apply blk_ext
      intro i hi
      rw [blockAt_get _ _ _ hi, blockAt_get _ _ _ hi, getD_app_lt (by omega)]
    show cmpV (blks (m ++ x) j) (blockAt (m ++ x) j) = cmpV (blks m j) (blockAt m j)
    rw [e, blks_app m x j (by omega)]
/-! ### what has been written -/
structure HOK (m : List Int) (h : Vector Int 8) (blk : Vector Int 64) (n : Int) : Prop where
  n : n = (m.length : Int)
  h : h = blks m (m.length / 64)
  b : ∀ i, i < m.length % 64 → blk.toList.getD i 0 = m.getD (64 * (m.length / 64) + i) 0
theorem cpV_ok {blk : Vector Int 64} {d : List Int} {lo len : Nat} (h : lo + len ≤ 64) : ∃ v, cpV blk d lo len = some v ∧ v.toList = cpy blk.toList d lo len := by
  unfold cpV
  rw [dif_pos h]
  exact ⟨_, rfl, rfl⟩
theorem cpy_lt {l d : List Int} {lo len i : Nat} (hl : lo ≤ l.length) (h : i < lo) : (cpy l d lo len).getD i 0 = l.getD i 0 := by
  unfold cpy
  rw [List.append_assoc, getD_app_lt (by simp; omega), List.getD_eq_getElem?_getD, List.getD_eq_getElem?_getD, List.getElem?_take_of_lt h]
theorem cpy_ge {l d : List Int} {lo len i : Nat} (hl : lo ≤ l.length) (h : lo ≤ i) (h' : i < lo + min d.length len) : (cpy l d lo len).getD i 0 = d.getD (i - lo) 0 := by
  unfold cpy
  rw [List.append_assoc, getD_app_ge (by simp; omega), getD_app_lt (by simp; omega), List.getD_eq_getElem?_getD, List.getD_eq_getElem?_getD, List.getElem?_take_of_lt (by simp; omega)]
  simp only [List.length_take]
  rw [Nat.min_eq_left hl]
theorem hok_step {m d : List Int} {h : Vector Int 8} {blk v : Vector Int 64} {n : Int} (H : HOK m h blk n) (hv : v.toList = cpy blk.toList d (m.length % 64) (64 - m.length % 64)) (hd : d ≠ []) :
    let c := min d.length (64 - m.length % 64)
    ((m.length + c) % 64 ≠ 0 → HOK (m ++ d.take c) h v (n + c)) ∧ ((m.length + c) % 64 = 0 → v = blockAt (m ++ d.take c) (m.length / 64) ∧ HOK (m ++ d.take c) (cmpV h v) v (n + c)) := by
  intro c
  have hd0 : 0 < d.length := List.length_pos_iff.2 hd
  have hlen : (m ++ d.take c).length = m.length + c := by simp [c]
  have hb : ∀ i, i < m.length % 64 + c → v.toList.getD i 0 = (m ++ d.take c).getD (64 * (m.length / 64) + i) 0 := by
    intro i hi
    rw [hv]
    by_cases h1 : i < m.length % 64
    · rw [cpy_lt (by simp; omega) h1, H.b i h1, getD_app_lt (by omega)]
    · rw [cpy_ge (by simp; omega) (by omega) (by omega), getD_app_ge (by omega), List.getD_eq_getElem?_getD, List.getD_eq_getElem?_getD, List.getElem?_take_of_lt (by omega)]
      congr 2
      omega
  have hc : c ≤ 64 - m.length % 64 := Nat.min_le_right _ _
  have hc0 : 0 < c := by simp only [c]; omega
  constructor
  · intro hne
    have e : (m.length + c) / 64 = m.length / 64 := by omega
    refine ⟨by rw [hlen, H.n]; omega, ?_, ?_⟩
    · rw [hlen, e, blks_app _ _ _ (by omega)]; exact H.h
    · rw [hlen, e]
      intro i hi
      exact hb i (by omega)
  · intro h0
    have e : (m.length + c) / 64 = m.length / 64 + 1 := by omega
    have hvb : v = blockAt (m ++ d.take c) (m.length / 64) := by
      apply blk_ext
      intro i hi
      rw [blockAt_get _ _ _ hi]
      exact hb i (by omega)
    refine ⟨hvb, by rw [hlen, H.n]; omega, ?_, ?_⟩
    · rw [hlen, e, blks, blks_app _ _ _ (by omega), ← H.h, ← hvb]
    · rw [hlen, h0]
      intro i hi
      omega
theorem slcL_ok {m : Nat} {lo hi : Int} (h0 : 0 ≤ lo) (h1 : lo ≤ hi) (h2 : hi ≤ (m : Int)) (h3 : lo < (m : Int)) : slcL m lo hi = some () := by
  unfold slcL; rw [dt h0, dt h1, dt h2, dt h3]; rfl
theorem slcB_ok {m : Nat} {lo hi : Int} (h0 : 0 ≤ lo) (h1 : lo ≤ hi) (h2 : hi ≤ (m : Int)) : slcB m lo hi = some () := by
  unfold slcB; rw [dt h0, dt h1, dt h2]; rfl
theorem tmod_nat (a b : Nat) : Int.tmod (a : Int) (b : Int) = ((a % b : Nat) : Int) := by
  rw [Int.tmod_eq_emod_of_nonneg (by omega)]; rfl
theorem slcO_drop {α : Type} {l : List α} {n : Nat} (h : n ≤ l.length) : slcO l (n : Int) (l.length : Int) = some (l.drop n) := by
  rw [slcO_ok (by omega) (by omega) (by omega)]; simp
theorem writeL2 (N : Nat) (hN : 64 < N) : ∀ (k : Nat) (m d : List Int) (h : Vector Int 8) (blk : Vector Int 64) (n : Int), HOK m h blk n → bytesL m → bytesL d → d.length < k → m.length + d.length < 4611686018427387904 →
    ∃ h' blk' n', p_sha_Hash_Write_rd_L2 N k h blk n d = some (h', blk', n') ∧ HOK (m ++ d) h' blk' n'
  | 0, _, _, _, _, _, _, _, _, hk, _ => by omega
  | k + 1, m, d, h, blk, n, H, hm, hd, hk, hl => by
    rw [p_sha_Hash_Write_rd_L2, letO_e]
    by_cases h0 : d = []
    · subst h0
      rw [df (by simp), cond_false]
      exact ⟨h, blk, n, rfl, by rwa [List.append_nil]⟩
    · have hd0 : 0 < d.length := List.length_pos_iff.2 h0
      have hn := H.n
      subst hn
      rw [dt (by omega), cond_true, show (64 : Int) = ((64 : Nat) : Int) from rfl, tmod_nat, slcL_ok (by omega) (by omega) (by omega) (by omega), Option.bind_some, Int.toNat_natCast, Int.toNat_natCast]
      obtain ⟨v, hv1, hv2⟩ := cpV_ok (blk := blk) (d := d) (lo := m.length % 64) (len := 64 - m.length % 64) (by omega)
      rw [hv1, Option.bind_some, letO_e]
      obtain ⟨s1, s2⟩ := hok_step H hv2 h0
      generalize hc : min d.length (64 - m.length % 64) = c at s1 s2
      have hc1 : c ≤ d.length := by omega
      have hc0 : 0 < c := by omega
      rw [slcO_drop hc1, Option.bind_some]
      have e1 : I64 ((m.length : Int) + (c : Int)) = ((m.length + c : Nat) : Int) := by rw [I64_id (by omega) (by omega)]; omega
      rw [e1, tmod_nat, letO_e]
      have e2 : m ++ d = (m ++ d.take c) ++ d.drop c := by rw [List.append_assoc, List.take_append_drop]
      have hl2 : (m ++ d.take c).length = m.length + c := by simp; omega
      by_cases hz : (m.length + c) % 64 = 0
      · obtain ⟨hvb, s2⟩ := s2 hz
        rw [hz, show ((((0 : Nat) : Int)) == 0) = true from rfl, cond_true, cmpP N hN h v (by rw [hvb]; exact (hm.app (hd.take c)).block _), Option.bind_some]
        rw [e2]
        exact writeL2 N hN k _ _ _ _ _ (by have := s2; rwa [show ((m.length : Int) + (c : Int)) = ((m.length + c : Nat) : Int) by omega] at this) (hm.app (hd.take c)) (hd.drop c) (by simp; omega) (by simp; omega)
      · rw [show ((((m.length + c) % 64 : Nat) : Int) == 0) = false by simp; omega, cond_false]
        rw [e2]
        exact writeL2 N hN k _ _ _ _ _ (by have := s1 hz; rwa [show ((m.length : Int) + (c : Int)) = ((m.length + c : Nat) : Int) by omega] at this) (hm.app (hd.take c)) (hd.drop c) (by simp; omega) (by simp; omega)
theorem writeL1 (N : Nat) (hN : 64 < N) (ps : List (List Int)) (hb : ∀ p ∈ ps, bytesL p) (hlen : ∀ p ∈ ps, p.length < N) (hps : ps.length < 4611686018427387904) : ∀ (k i : Nat) (m : List Int) (h : Vector Int 8) (blk : Vector Int 64) (n : Int), HOK m h blk n → bytesL m → i ≤ ps.length → ps.length - i < k → m.length + (ps.drop i).flatten.length < 4611686018427387904 →
    ∃ h' blk' n', p_sha_Hash_Write_rd_L1 N ps k h blk n (i : Int) = some (h', blk', n') ∧ HOK (m ++ (ps.drop i).flatten) h' blk' n'
  | 0, _, _, _, _, _, _, _, _, hk, _ => by omega
  | k + 1, i, m, h, blk, n, H, hm, hi, hk, hl => by
    rw [p_sha_Hash_Write_rd_L1, letO_e]
    by_cases h0 : i < ps.length
    · have hd := List.drop_eq_getElem_cons h0
      rw [hd, List.flatten_cons] at hl ⊢
      rw [List.length_append] at hl
      obtain ⟨h', blk', n', e1, e2⟩ := writeL2 N hN N m ps[i] h blk n H hm (hb _ (List.getElem_mem h0)) (hlen _ (List.getElem_mem h0)) (by omega)
      rw [dt (by omega), cond_true, idx_at h0, Option.bind_some, e1, Option.bind_some, I64_s (by omega), ← List.append_assoc]
      exact writeL1 N hN ps hb hlen hps k (i + 1) _ _ _ _ e2 (hm.app (hb _ (List.getElem_mem h0))) (by omega) (by omega) (by simp; simp at hl; omega)
    · rw [df (by omega), cond_false, List.drop_of_length_le (by omega)]
      exact ⟨h, blk, n, rfl, by simpa using H⟩
theorem H0_nz : eqV (fun a b => a == b) H0 (Vector.replicate 8 0) = false := rfl
theorem none_ok (N : Nat) {m : List Int} {h : Vector Int 8} {blk : Vector Int 64} {n : Int} (H : HOK m h blk n) : p_sha_Hash_none_r N (S_sha_Hash.mk h blk n) = some false := by
  unfold p_sha_Hash_none_r
  simp only [letO_e]
  by_cases h0 : m = []
  · subst h0
    have : h = H0 := H.h
    rw [this, H0_nz]
    rfl
  · have : (n == 0) = false := by rw [H.n]; have := List.length_pos_iff.2 h0; simp; exact h0
    rw [this]
    cases eqV (fun a b => a == b) h (Vector.replicate 8 0) <;> rfl
theorem writeP (N : Nat) (hN : 64 < N) {m : List Int} {h : Vector Int 8} {blk : Vector Int 64} {n : Int} (H : HOK m h blk n) (hm : bytesL m) (ps : List (List Int)) (hb : ∀ p ∈ ps, bytesL p) (hlen : ∀ p ∈ ps, p.length < N) (hps : ps.length < N) (hps2 : ps.length < 4611686018427387904) (hl : m.length + ps.flatten.length < 4611686018427387904) :
    ∃ h' blk' n', p_sha_Hash_Write_rd N ps (S_sha_Hash.mk h blk n) = some (h', blk', n') ∧ HOK (m ++ ps.flatten) h' blk' n' := by
  unfold p_sha_Hash_Write_rd
  obtain ⟨h', blk', n', e1, e2⟩ := writeL1 N hN ps hb hlen hps2 N 0 m h blk n H hm (by omega) (by omega) (by simpa using hl)
  refine ⟨h', blk', n', ?_, by simpa using e2⟩
  rw [none_ok N H, Option.bind_some, cond_false]
  show Option.bind (p_sha_Hash_Write_rd_L1 N ps N h blk n 0) _ = _
  rw [show ((0 : Nat) : Int) = 0 from rfl] at e1
  rw [e1]
  rfl
end Go.UK
