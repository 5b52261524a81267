/- A part of the proof: what the functions of the program compute. -/
import Derived.Test.YtcaadpceoajapaaS13
namespace Go.UK
open Go Go.Proofs
set_option maxRecDepth 20000
set_option maxHeartbeats 1000000
set_option linter.all false
/-! ### three sums are read -/
theorem num1R (N : Nat) (hN : 8 < N) {B : List Int} (hB : bytesL B) (hBl : B.length ≤ 1000000) (At E : Int) (hE : E ≠ 0) : ∃ At' v, p_umbraref11_Reader_Num_rd N 1 (S_umbraref11_Reader.mk B At E) = some (B, At', E, v) := by
  obtain ⟨b', e', At', v, _, h2, _, _, _, _, _, h8⟩ := numB N hN (B := B) (b := []) (e := E) (At := At) (E := E) ⟨rfl, fun h => absurd h hE⟩ hB hBl 1 (by decide) (by decide)
  have := h8 hE
  subst this
  exact ⟨At', v, h2⟩
theorem num1K (N : Nat) (hN : 8 < N) {B : List Int} (hB : bytesL B) (hBl : B.length ≤ 1000000) (a : Nat) (ha : a < B.length) : p_umbraref11_Reader_Num_rd N 1 (S_umbraref11_Reader.mk B (a : Int) 0) = some (B, ((a + 1 : Nat) : Int), 0, B.getD a 0) := by
  obtain ⟨b', e', At', v, _, h2, _, _, _, h6, _, _⟩ := numB N hN (B := B) (b := B.drop a) (e := 0) (At := (a : Int)) (E := 0) ⟨rfl, fun _ => ⟨a, rfl, by omega, rfl⟩⟩ hB hBl 1 (by decide) (by decide)
  obtain ⟨q1, q2, q3⟩ := h6 rfl a rfl (by omega)
  subst q1 q2 q3
  have : numV ((B.drop a).take 1) = B.getD a 0 := by
    rw [List.drop_eq_getElem_cons ha, List.take_succ_cons, List.take_zero, List.getD_eq_getElem?_getD, List.getElem?_eq_getElem ha]
    show B[a] + 256 * 0 = B[a]
    omega
  rw [this] at h2
  exact h2
theorem num1F (N : Nat) (hN : 8 < N) {B : List Int} (hB : bytesL B) (hBl : B.length ≤ 1000000) (a : Nat) (ha : a ≤ B.length) (ha2 : ¬ a < B.length) : ∃ At' v, p_umbraref11_Reader_Num_rd N 1 (S_umbraref11_Reader.mk B (a : Int) 0) = some (B, At', 4, v) := by
  obtain ⟨b', e', At', v, _, h2, _, _, _, _, h7, _⟩ := numB N hN (B := B) (b := B.drop a) (e := 0) (At := (a : Int)) (E := 0) ⟨rfl, fun _ => ⟨a, rfl, ha, rfl⟩⟩ hB hBl 1 (by decide) (by decide)
  have := h7 rfl a rfl (by omega)
  subst this
  exact ⟨At', v, h2⟩
theorem threeE (N : Nat) (hN : 8 < N) {B : List Int} (hB : bytesL B) (hBl : B.length ≤ 1000000) (E : Int) (hE : E ≠ 0) : ∀ (k i : Nat) (At : Int) (v : Vector Int 32), i ≤ 32 → 32 - i < k → ∃ At' v', p_umbraref37_three_r_L1 N k B At E v (i : Int) = some (B, At', E, v')
  | 0, _, _, _, _, h => by omega
  | k + 1, i, At, v, hi, hk => by
    rw [p_umbraref37_three_r_L1]
    by_cases h : i < 32
    · obtain ⟨At', x, h1⟩ := num1R N hN hB hBl At E hE
      rw [dt (by omega), cond_true, h1, Option.bind_some, inRO_ok (by omega) (by omega), Option.bind_some, Int.toNat_natCast, vget v i h, Option.bind_some, I64_s (by omega)]
      exact threeE N hN hB hBl E hE k (i + 1) _ _ (by omega) (by omega)
    · exact ⟨At, v, by rw [df (by omega), cond_false]⟩
theorem threeF (N : Nat) (hN : 8 < N) {B : List Int} (hB : bytesL B) (hBl : B.length ≤ 1000000) (a : Nat) (ha2 : ¬ a + 32 ≤ B.length) : ∀ (k i : Nat) (v : Vector Int 32), i ≤ 32 → 32 - i < k → a + i ≤ B.length → ∃ At' v', p_umbraref37_three_r_L1 N k B ((a + i : Nat) : Int) 0 v (i : Int) = some (B, At', 4, v')
  | 0, _, _, _, h, _ => by omega
  | k + 1, i, v, hi, hk, hai => by
    rw [p_umbraref37_three_r_L1, dt (by omega), cond_true]
    by_cases h : a + i < B.length
    · rw [num1K N hN hB hBl (a + i) h, Option.bind_some, inRO_ok (by omega) (by omega), Option.bind_some, Int.toNat_natCast, vget v i (by omega), Option.bind_some, I64_s (by omega)]
      exact threeF N hN hB hBl a ha2 k (i + 1) _ (by omega) (by omega) (by omega)
    · obtain ⟨At', x, h1⟩ := num1F N hN hB hBl (a + i) hai h
      rw [h1, Option.bind_some, inRO_ok (by omega) (by omega), Option.bind_some, Int.toNat_natCast, vget v i (by omega), Option.bind_some, I64_s (by omega)]
      exact threeE N hN hB hBl 4 (by decide) k (i + 1) _ _ (by omega) (by omega)
theorem threeK (N : Nat) (hN : 8 < N) {B : List Int} (hB : bytesL B) (hBl : B.length ≤ 1000000) (a : Nat) (ha2 : a + 32 ≤ B.length) : ∀ (k i : Nat) (v : Vector Int 32), i ≤ 32 → 32 - i < k → v.toList.take i = (B.drop a).take i → ∃ v', p_umbraref37_three_r_L1 N k B ((a + i : Nat) : Int) 0 v (i : Int) = some (B, ((a + 32 : Nat) : Int), 0, v') ∧ v'.toList = (B.drop a).take 32
  | 0, _, _, _, h, _ => by omega
  | k + 1, i, v, hi, hk, hv => by
    rw [p_umbraref37_three_r_L1]
    by_cases h : i < 32
    · have hx := hB.getD (a + i)
      rw [dt (by omega), cond_true, num1K N hN hB hBl (a + i) (by omega), Option.bind_some, inRO_ok (by omega) (by omega), Option.bind_some, Int.toNat_natCast, vget v i (by omega), Option.bind_some, I64_s (by omega)]
      dsimp only
      rw [U8_id hx.1 hx.2]
      refine threeK N hN hB hBl a ha2 k (i + 1) _ (by omega) (by omega) ?_
      rw [set_take hv h, List.take_succ, List.getElem?_drop, get_getD (show a + i < B.length by omega)]
      rfl
    · obtain rfl : i = 32 := by omega
      refine ⟨v, by rw [df (by omega), cond_false], ?_⟩
      rw [← hv, List.take_of_length_le (by simp)]
theorem cpV32 {d : List Int} : ∃ v, cpV (Vector.replicate 32 (0 : Int)) d 0 32 = some v ∧ (d.length = 32 → v.toList = d) := by
  unfold cpV
  rw [dif_pos (by omega)]
  refine ⟨_, rfl, fun h => ?_⟩
  show cpy (Vector.replicate 32 (0 : Int)).toList d 0 32 = d
  unfold cpy
  rw [List.take_zero, List.nil_append, h, List.take_of_length_le (by omega), List.drop_of_length_le (by simp), List.append_nil]
theorem threeB (N : Nat) (hN : 40 < N) {B b : List Int} {e At E : Int} (R : RL B b e At E) (hB : bytesL B) (hBl : B.length ≤ 1000000) :
    ∃ b' e' out v At' v', p_codec_Reader_Take_rd N 32 (S_codec_Reader.mk b e true) = some (b', e', out) ∧ cpV (Vector.replicate 32 (0 : Int)) out 0 32 = some v ∧ p_umbraref37_three_r N (S_umbraref11_Reader.mk B At E) = some (B, At', e', v') ∧ RL B b' e' At' e' ∧ (e' = 0 → v = v') ∧ (E ≠ 0 → e' = E) := by
  obtain ⟨b', e', At1, out, h1, _, h3, _, h5, h6, h7, h8, h9⟩ := takeB N R hB hBl 32 (by omega)
  obtain ⟨v, hv1, hv2⟩ := cpV32 (d := out)
  have unf : ∀ p : List Int × Int × Int × Vector Int 32, p_umbraref37_three_r_L1 N N B At E (Vector.replicate 32 0) 0 = some p → p_umbraref37_three_r N (S_umbraref11_Reader.mk B At E) = some p := by
    intro p hp
    unfold p_umbraref37_three_r
    dsimp only
    rw [hp]
    rfl
  by_cases hE : E = 0
  · subst hE
    obtain ⟨a, rfl, ha, hb⟩ := R.ok rfl
    by_cases hal : a + 32 ≤ B.length
    · obtain ⟨q1, q2, q3⟩ := h7 rfl a rfl hal
      subst q1 q2
      obtain ⟨v', k1, k2⟩ := threeK N (by omega) hB hBl a hal N 0 (Vector.replicate 32 0) (by omega) (by omega) (by simp)
      refine ⟨b', 0, out, v, _, v', h1, hv1, unf _ k1, h3, fun _ => ?_, fun h => absurd rfl h⟩
      apply Vector.toList_inj.1
      rw [hv2 (h5 rfl).1, k2, q3]
    · have := h8 rfl a rfl hal
      subst this
      obtain ⟨At', v', k1⟩ := threeF N (by omega) hB hBl a hal N 0 (Vector.replicate 32 0) (by omega) (by omega) (by omega)
      exact ⟨b', 4, out, v, At', v', h1, hv1, unf _ k1, ⟨rfl, fun h => by cases h⟩, fun h => (by cases h), fun h => absurd rfl h⟩
  · have := h9 hE
    subst this
    obtain ⟨At', v', k1⟩ := threeE N (by omega) hB hBl e' hE N 0 At (Vector.replicate 32 0) (by omega) (by omega)
    exact ⟨b', e', out, v, At', v', h1, hv1, unf _ k1, ⟨rfl, fun h => absurd h hE⟩, fun h => absurd h hE, fun _ => rfl⟩
theorem endB (N : Nat) {B b : List Int} {e At E : Int} (R : RL B b e At E) : ∃ c : Int, p_codec_Reader_End_r N (S_codec_Reader.mk b e true) = some c ∧ p_umbraref11_Reader_End_r N (S_umbraref11_Reader.mk B At E) = some c ∧ (E ≠ 0 → c ≠ 0) := by
  obtain ⟨rfl, hok⟩ := R
  unfold p_codec_Reader_End_r p_umbraref11_Reader_End_r
  rw [show p_codec_Reader_Err_r N (S_codec_Reader.mk b e true) = some e from rfl, Option.bind_some]
  dsimp only
  by_cases h0 : e = 0
  · subst h0
    obtain ⟨a, rfl, ha, rfl⟩ := hok rfl
    rw [show ((0 : Int) != 0) = false from rfl, show ((0 : Int) == 0) = true from rfl, cond_false, cond_true, letO_e, letO_e, Option.bind_some, List.length_drop]
    by_cases h : a < B.length
    · rw [dt (show ((B.length - a : Nat) : Int) > 0 by omega), dt (show (a : Int) < (B.length : Int) by omega)]
      exact ⟨5, rfl, rfl, fun h => absurd rfl h⟩
    · rw [df (show ¬ ((B.length - a : Nat) : Int) > 0 by omega), df (show ¬ (a : Int) < (B.length : Int) by omega)]
      exact ⟨0, rfl, rfl, fun h => absurd rfl h⟩
  · have hne : (e != 0) = true := by simpa using h0
    have heq : (e == 0) = false := by simpa using h0
    rw [hne, heq, cond_true, cond_false, Option.bind_some, cond_false]
    exact ⟨e, rfl, rfl, fun h => h⟩
theorem decode_same (N : Nat) (hN : 40 < N) (B : List Int) (hB : bytesL B) (hBl : B.length ≤ 1000000) : ∃ p, p_receipt_Decode N B = some p ∧ p_umbraref37_Decode N B = some p := by
  have R0 : RL B B 0 0 0 := ⟨rfl, fun _ => ⟨0, rfl, by omega, rfl⟩⟩
  obtain ⟨b1, e1, A1, v1, p1, q1, R1, n1, _⟩ := intB N (by omega) R0 hB hBl
  obtain ⟨b2, e2, A2, v2, p2, q2, R2, n2, _⟩ := intB N (by omega) R1 hB hBl
  obtain ⟨b3, e3, A3, v3, p3, q3, R3, n3, _⟩ := intB N (by omega) R2 hB hBl
  obtain ⟨b4, e4, A4, v4, p4, q4, R4, _, _, _, _, n4⟩ := numB N (by omega) R3 hB hBl 4 (by decide) (by decide)
  have p4 : p_codec_Reader_Num_rd N 4 (S_codec_Reader.mk b3 e3 true) = some (b4, e4, v4) := p4
  have q4 : p_umbraref11_Reader_Num_rd N 4 (S_umbraref11_Reader.mk B A3 e3) = some (B, A4, e4, v4) := q4
  obtain ⟨b5, e5, o5, v5, A5, w5, p5, c5, q5, R5, s5, n5⟩ := threeB N hN R4 hB hBl
  obtain ⟨b6, e6, o6, v6, A6, w6, p6, c6, q6, R6, s6, n6⟩ := threeB N hN R5 hB hBl
  obtain ⟨b7, e7, o7, v7, A7, w7, p7, c7, q7, R7, s7, n7⟩ := threeB N hN R6 hB hBl
  obtain ⟨c, p8, q8, n8⟩ := endB N R7
  have hP : p_receipt_Decode N B = cond (c != 0) (some (zR, c)) (some (S_api_Receipt.mk v1 v2 v3 (U32 v4) v5 v6 v7, 0)) := by
    unfold p_receipt_Decode p_codec_New
    have i0 : inRO 0 3 = some () := rfl
    have i1 : inRO 1 3 = some () := rfl
    have i2 : inRO 2 3 = some () := rfl
    have sb : slcB 32 0 32 = some () := rfl
    rw [clone1 N B (by omega), Option.bind_some, Option.bind_some]
    dsimp only
    rw [p1, Option.bind_some]
    dsimp only
    rw [p2, Option.bind_some]
    dsimp only
    rw [p3, Option.bind_some]
    dsimp only
    rw [p4, Option.bind_some, i0, Option.bind_some, sb, Option.bind_some]
    dsimp only
    rw [p5, Option.bind_some]
    dsimp only
    rw [c5, Option.bind_some, i1, Option.bind_some, Option.bind_some, p6, Option.bind_some]
    dsimp only
    rw [c6, Option.bind_some, i2, Option.bind_some, Option.bind_some, p7, Option.bind_some]
    dsimp only
    rw [c7, Option.bind_some, p8, Option.bind_some]
    rfl
  have hQ : p_umbraref37_Decode N B = cond (c != 0) (some (zR, c)) (some (S_api_Receipt.mk v1 v2 v3 (U32 v4) w5 w6 w7, 0)) := by
    unfold p_umbraref37_Decode
    rw [q1, Option.bind_some]
    dsimp only
    rw [q2, Option.bind_some]
    dsimp only
    rw [q3, Option.bind_some]
    dsimp only
    rw [q4, Option.bind_some]
    dsimp only
    rw [q5, Option.bind_some]
    dsimp only
    rw [q6, Option.bind_some]
    dsimp only
    rw [q7, Option.bind_some]
    dsimp only
    rw [q8, Option.bind_some]
    rfl
  rw [hP, hQ]
  by_cases hc : c = 0
  · have z7 : e7 = 0 := Classical.byContradiction fun h => n8 h hc
    have z6 : e6 = 0 := Classical.byContradiction fun h => h (by rw [← n7 h]; exact z7)
    have z5 : e5 = 0 := Classical.byContradiction fun h => h (by rw [← n6 h]; exact z6)
    rw [s5 z5, s6 z6, s7 z7]
    subst hc
    exact ⟨_, rfl, rfl⟩
  · rw [show (c != 0) = true by simpa using hc]
    exact ⟨_, rfl, rfl⟩
theorem receiptBytesT (N : Nat) (hN : 400 < N) (r : S_api_Receipt) (hr : RecOK r) (b : List Int) (hb : bytesL b) : p_umbralaw37_ReceiptBytes N r b = some true := by
  unfold p_umbralaw37_ReceiptBytes
  rw [letO_e, show (150 : Int) = ((150 : Nat) : Int) from rfl, slcO_min, Option.bind_some]
  obtain ⟨p, p1, p2⟩ := decode_same N (by omega) (b.take 150) (hb.take 150) (by simp; omega)
  rw [p1, Option.bind_some, p2, Option.bind_some, encP N (by omega) r hr, Option.bind_some, encR N (by omega) r hr, Option.bind_some]
  have he : p_bytes_Equal N (encV r) (encV r) = some true := by
    unfold p_bytes_Equal
    rw [letO_e]
    simp
  rw [he, Option.bind_some, cond_true, letO_e, rec_t, cond_true, show (p.2 == p.2) = true by simp, cond_true, works37 N (by omega), Option.bind_some, Option.bind_some]
end Go.UK
