/- A part of the proof: what the functions of the program compute. -/
import Derived.Test.YtcaadpceoajapaaS12
namespace Go.UK
open Go Go.Proofs
set_option maxRecDepth 20000
set_option maxHeartbeats 1000000
set_option linter.all false
theorem slc3O_ok {α : Type} {l : List α} {n : Nat} (h : n ≤ l.length) : slc3O l 0 (n : Int) (n : Int) = some (l.take n) := by
  unfold slc3O
  rw [dt (show (0 : Int) ≤ 0 by omega), dt (show (0 : Int) ≤ (n : Int) by omega), dt (show (n : Int) ≤ (n : Int) by omega), dt (show (n : Int) ≤ (l.length : Int) by omega)]
  simp
/-! ### reading numbers -/
def numV (b : List Int) : Int := b.foldr (fun x a => x + 256 * a) 0
theorem numV_app (x : Int) : ∀ (l : List Int), numV (l ++ [x]) = numV l + x * p256 l.length
  | [] => by simp [numV, p256]
  | a :: l => by
    have h := numV_app x l
    have e : numV (a :: l ++ [x]) = a + 256 * numV (l ++ [x]) := rfl
    have e2 : numV (a :: l) = a + 256 * numV l := rfl
    rw [e, e2, h, List.length_cons, p256_s]
    grind
theorem numV_lt : ∀ (l : List Int), bytesL l → 0 ≤ numV l ∧ numV l < p256 l.length
  | [], _ => ⟨by simp [numV], by simp [numV, p256]⟩
  | a :: l, h => by
    obtain ⟨h1, h2⟩ := numV_lt l (fun x hx => h x (by simp [hx]))
    obtain ⟨h3, h4⟩ := h a (by simp)
    have e2 : numV (a :: l) = a + 256 * numV l := rfl
    rw [e2, List.length_cons, p256_s]
    omega
theorem p256_le {i : Nat} (h : i ≤ 8) : p256 i ≤ 18446744073709551616 := by
  have : ∀ i : Fin 9, p256 i.val ≤ 18446744073709551616 := by decide
  exact this ⟨i, by omega⟩
theorem mul_bd2 {x p : Int} (hx : isB x) (hp : 0 < p) : 0 ≤ x * p ∧ x * p ≤ 255 * p := by
  have h1 := Int.mul_nonneg hx.1 (Int.le_of_lt hp)
  have h2 : x * p ≤ 255 * p := Int.mul_le_mul_of_nonneg_right (by have := hx.2; omega) (Int.le_of_lt hp)
  exact ⟨h1, h2⟩
theorem numL (N : Nat) (b : List Int) (t : List Int × Int × List Int) (ht : t.2.2 = b) (hb : bytesL b) (hl : b.length ≤ 8) : ∀ (k i : Nat), i ≤ b.length → b.length - i < k → p_codec_Reader_Num_rd_L1 N t k (numV (b.take i)) (i : Int) = some (numV b)
  | 0, _, _, h => by omega
  | k + 1, i, hi, hk => by
    rw [p_codec_Reader_Num_rd_L1, letO_e, ht]
    by_cases h : i < b.length
    · have hx := hb _ (List.getElem_mem h)
      have f : I64 (8 * (i : Int)) = ((8 * i : Nat) : Int) := by rw [I64_id (by omega) (by omega)]; omega
      have ht' : (b.take i).length = i := by simp; omega
      have e1 : numV (b.take (i + 1)) = numV (b.take i) + b[i] * p256 i := by
        rw [List.take_succ, List.getElem?_eq_getElem h]
        have := numV_app b[i] (b.take i)
        rw [ht'] at this
        exact this
      obtain ⟨l1, l2⟩ := numV_lt (b.take i) (hb.take i)
      rw [ht'] at l2
      have hp := p256_pos i
      have hp8 : p256 (i + 1) ≤ 18446744073709551616 := p256_le (by omega)
      rw [p256_s] at hp8
      obtain ⟨m1, m2⟩ := mul_bd2 hx hp
      have e2 : shl .u64 (U64 b[i]) ((8 * i : Nat) : Int) = b[i] * p256 i := by
        rw [U64_id hx.1 (by have := hx.2; omega), shl_e _ _ (8 * i) rfl (by omega), p256_2]
        omega
      have e3 : bor .u64 (numV (b.take i)) (b[i] * p256 i) = numV (b.take i) + b[i] * p256 i := by
        rw [bor_comm, bor_dis (8 * i) m1 (by omega) l1 (by have := p256_2 i; rw [← this] at l2; push_cast; exact l2) (by omega) ?_]
        · omega
        · have h2 : (p256 i).toNat = 2 ^ (8 * i) := by rw [← p256_2]; rw [← Int.toNat_natCast (2 ^ (8 * i))]; congr 1
          rw [Int.toNat_mul hx.1 (Int.le_of_lt hp), h2]
          exact Nat.dvd_mul_left _ _
      rw [dt (by omega), cond_true, idx_at h, Option.bind_some, f, shlO_ok .u64 (by omega), Option.bind_some, e2, e3, ← e1, I64_s (by omega)]
      exact numL N b t ht hb hl k (i + 1) (by omega) (by omega)
    · rw [df (by omega), cond_false, List.take_of_length_le (by omega)]
theorem numRL (N : Nat) (b : List Int) (t : Int × Int × List Int) (ht : t.2.2 = b) (hb : bytesL b) (hl : b.length ≤ 8) : ∀ (k i : Nat), i ≤ b.length → i < k → p_umbraref11_Reader_Num_rd_L1 N t k (numV (b.drop i)) ((i : Int) - 1) = some (numV b)
  | 0, _, _, h => by omega
  | k + 1, i, hi, hk => by
    rw [p_umbraref11_Reader_Num_rd_L1, ht]
    by_cases h : 0 < i
    · obtain ⟨j, rfl⟩ : ∃ j, i = j + 1 := ⟨i - 1, by omega⟩
      have hx := hb _ (List.getElem_mem (show j < b.length by omega))
      have e1 : numV (b.drop j) = b[j] + 256 * numV (b.drop (j + 1)) := by rw [List.drop_eq_getElem_cons (show j < b.length by omega)]; rfl
      obtain ⟨l1, l2⟩ := numV_lt (b.drop j) (hb.drop j)
      have hp8 := p256_le (i := (b.drop j).length) (by simp; omega)
      have hx0 := hx.1
      have hx1 := hx.2
      have e2 : U64 (U64 (numV (b.drop (j + 1)) * 256) + U64 b[j]) = numV (b.drop j) := by
        simp only [U64_e]
        omega
      have f : I64 (((j + 1 : Nat) : Int) - 1 - 1) = (j : Int) - 1 := by rw [I64_id (by omega) (by omega)]; omega
      rw [dt (by omega), cond_true, show ((j + 1 : Nat) : Int) - 1 = (j : Int) by omega, idx_at (show j < b.length by omega), Option.bind_some, letO_e, e2, show I64 ((j : Int) - 1) = (j : Int) - 1 by rw [I64_id (by omega) (by omega)]]
      exact numRL N b t ht hb hl k j (by omega) (by omega)
    · obtain rfl : i = 0 := by omega
      rw [df (by omega), cond_false, List.drop_zero]
/-! ### two readers -/
structure RL (B b : List Int) (e At E : Int) : Prop where
  eq : e = E
  ok : E = 0 → ∃ a : Nat, At = (a : Int) ∧ a ≤ B.length ∧ b = B.drop a
theorem takeB (N : Nat) {B b : List Int} {e At E : Int} (R : RL B b e At E) (hB : bytesL B) (hBl : B.length ≤ 1000000) (n : Nat) (hn : n ≤ 1000000) :
    ∃ b' e' At' out, p_codec_Reader_Take_rd N (n : Int) (S_codec_Reader.mk b e true) = some (b', e', out) ∧ p_umbraref11_Reader_Take_rd N (n : Int) (S_umbraref11_Reader.mk B At E) = some (At', e', out) ∧ RL B b' e' At' e' ∧ bytesL out ∧ (e' = 0 → out.length = n ∧ E = 0) ∧ (e' ≠ 0 → out = []) ∧
      (E = 0 → ∀ a : Nat, At = (a : Int) → a + n ≤ B.length → e' = 0 ∧ At' = ((a + n : Nat) : Int) ∧ out = (B.drop a).take n) ∧ (E = 0 → ∀ a : Nat, At = (a : Int) → ¬ a + n ≤ B.length → e' = 4) ∧ (E ≠ 0 → e' = E) := by
  obtain ⟨rfl, hok⟩ := R
  unfold p_codec_Reader_Take_rd p_umbraref11_Reader_Take_rd
  rw [show p_codec_Reader_none_r N (S_codec_Reader.mk b e true) = some false from rfl, Option.bind_some]
  simp only [letO_e]
  by_cases h0 : e = 0
  · subst h0
    obtain ⟨a, rfl, ha, rfl⟩ := hok rfl
    rw [show ((0 : Int) != 0) = false from rfl, show ((0 : Int) == 0) = true from rfl, cond_false, cond_false, cond_true, df (show ¬ (n : Int) < 0 by omega), cond_false, cond_false, Option.bind_some, show ((0 : Int) == 0) = true from rfl, cond_true, List.length_drop]
    have f : I64 ((B.length : Int) - (a : Int)) = ((B.length - a : Nat) : Int) := by rw [I64_id (by omega) (by omega)]; omega
    rw [f, Option.bind_some]
    by_cases h1 : n ≤ B.length - a
    · rw [df (by omega), cond_false, slc3O_ok (by simp; omega), Option.bind_some, show ((B.length - a : Nat) : Int) = (((B.drop a).length : Nat) : Int) by simp, slcO_drop (by simp; omega), Option.bind_some, cond_false, Option.bind_some, show ((0 : Int) != 0) = false from rfl, cond_false]
      have g1 : I64 ((a : Int) + (n : Int)) = ((a + n : Nat) : Int) := by rw [I64_id (by omega) (by omega)]; omega
      have g2 : I64 (((a + n : Nat) : Int) - (n : Int)) = (a : Int) := by rw [I64_id (by omega) (by omega)]; omega
      rw [g1, g2, slcO_ok (by omega) (by omega) (by omega), Option.bind_some, Int.toNat_natCast, Int.toNat_natCast]
      have e1 : (B.take (a + n)).drop a = (B.drop a).take n := by rw [List.take_drop]
      refine ⟨_, 0, _, (B.drop a).take n, rfl, by rw [e1], ⟨rfl, fun _ => ⟨a + n, rfl, by omega, by rw [List.drop_drop]⟩⟩, (hB.drop a).take n, fun _ => ⟨by simp; omega, rfl⟩, fun h => absurd rfl h, ?_, ?_, fun h => absurd rfl h⟩
      · intro _ a' ha' _
        have : a' = a := by omega
        subst this
        exact ⟨rfl, rfl, rfl⟩
      · intro _ a' ha' hx
        omega
    · rw [dt (by omega), cond_true, cond_true, Option.bind_some, show ((4 : Int) != 0) = true from rfl, cond_true]
      refine ⟨_, 4, _, [], rfl, rfl, ⟨rfl, fun h => by cases h⟩, fun x hx => (by cases hx), fun h => (by cases h), fun _ => rfl, ?_, fun _ _ _ _ => rfl, fun h => absurd rfl h⟩
      intro _ a' ha' hx
      omega
  · have hne : (e != 0) = true := by simpa using h0
    have heq : (e == 0) = false := by simpa using h0
    rw [hne, heq, cond_false, cond_true, cond_false, cond_false, Option.bind_some, heq, cond_false, Option.bind_some, cond_false, Option.bind_some, hne, cond_true]
    exact ⟨_, e, _, [], rfl, rfl, ⟨rfl, fun h => absurd h h0⟩, fun x hx => (by cases hx), fun h => absurd h h0, fun _ => rfl, fun h => absurd h h0, fun h => absurd h h0, fun _ => rfl⟩
theorem numB (N : Nat) (hN : 8 < N) {B b : List Int} {e At E : Int} (R : RL B b e At E) (hB : bytesL B) (hBl : B.length ≤ 1000000) (w : Nat) (hw0 : 1 ≤ w) (hw : w ≤ 8) :
    ∃ b' e' At' v, p_codec_Reader_Num_rd N (w : Int) (S_codec_Reader.mk b e true) = some (b', e', v) ∧ p_umbraref11_Reader_Num_rd N (w : Int) (S_umbraref11_Reader.mk B At E) = some (B, At', e', v) ∧ RL B b' e' At' e' ∧ (0 ≤ v ∧ v < 18446744073709551616) ∧ (e' ≠ 0 → v = 0) ∧
      (E = 0 → ∀ a : Nat, At = (a : Int) → a + w ≤ B.length → e' = 0 ∧ At' = ((a + w : Nat) : Int) ∧ v = numV ((B.drop a).take w)) ∧ (E = 0 → ∀ a : Nat, At = (a : Int) → ¬ a + w ≤ B.length → e' = 4) ∧ (E ≠ 0 → e' = E) := by
  obtain ⟨b', e', At', out, h1, h2, h3, h4, h5, h6, h7, h8, h9⟩ := takeB N R hB hBl w (by omega)
  unfold p_codec_Reader_Num_rd p_umbraref11_Reader_Num_rd
  dsimp only
  have hol : out.length ≤ 8 := by
    by_cases h : e' = 0
    · have := (h5 h).1; omega
    · rw [h6 h]; simp
  have c1 : (cond (E == 0) (letO (cond (decide ((w : Int) < 1)) true (decide ((w : Int) > 8))) fun x3 => some x3) (some false)) = some false := by
    rw [df (show ¬ (w : Int) < 1 by omega), df (show ¬ (w : Int) > 8 by omega), cond_false, letO_e]
    cases E == 0 <;> rfl
  rw [df (show ¬ (w : Int) < 1 by omega), df (show ¬ (w : Int) > 8 by omega), cond_false, letO_e, cond_false, Option.bind_some, h1, Option.bind_some]
  have c2 := c1
  rw [df (show ¬ (w : Int) < 1 by omega), df (show ¬ (w : Int) > 8 by omega), cond_false] at c2
  rw [c2, Option.bind_some, cond_false, Option.bind_some, show imax (w : Int) 0 = (w : Int) by unfold imax; split <;> omega, h2, Option.bind_some]
  have n1 := numL N out (b', e', out) rfl h4 hol N 0 (by omega) (by omega)
  have n2 := numRL N out (At', e', out) rfl h4 hol N out.length (by omega) (by omega)
  rw [List.take_zero, show ((0 : Nat) : Int) = 0 from rfl] at n1
  rw [List.drop_length] at n2
  have f : I64 ((out.length : Int) - 1) = (out.length : Int) - 1 := by rw [I64_id (by omega) (by omega)]
  rw [show p_codec_Reader_Num_rd_L1 N (b', e', out) N 0 0 = some (numV out) from n1, Option.bind_some, letO_e]
  dsimp only
  rw [f, show p_umbraref11_Reader_Num_rd_L1 N (At', e', out) N 0 ((out.length : Int) - 1) = some (numV out) from n2, Option.bind_some]
  obtain ⟨l1, l2⟩ := numV_lt out h4
  have hp8 := p256_le hol
  refine ⟨b', e', At', numV out, rfl, rfl, h3, ⟨l1, by omega⟩, fun h => by rw [h6 h]; rfl, ?_, h8, h9⟩
  intro hE a ha hal
  obtain ⟨q1, q2, q3⟩ := h7 hE a ha hal
  exact ⟨q1, q2, by rw [q3]⟩
theorem intB (N : Nat) (hN : 8 < N) {B b : List Int} {e At E : Int} (R : RL B b e At E) (hB : bytesL B) (hBl : B.length ≤ 1000000) :
    ∃ b' e' At' v, p_codec_Reader_Int_rd N 8 (S_codec_Reader.mk b e true) = some (b', e', v) ∧ p_umbraref11_Reader_Int_rd N 8 (S_umbraref11_Reader.mk B At E) = some (B, At', e', v) ∧ RL B b' e' At' e' ∧ (E ≠ 0 → e' = E) ∧
      (E = 0 → ∀ a : Nat, At = (a : Int) → a + 8 ≤ B.length → e' = 0 ∧ At' = ((a + 8 : Nat) : Int) ∧ v = I64 (numV ((B.drop a).take 8))) := by
  obtain ⟨b', e', At', v, h1, h2, h3, h4, h5, h6, h7, h8⟩ := numB N hN R hB hBl 8 (by decide) (by decide)
  unfold p_codec_Reader_Int_rd p_umbraref11_Reader_Int_rd
  have h1 : p_codec_Reader_Num_rd N 8 (S_codec_Reader.mk b e true) = some (b', e', v) := h1
  have h2 : p_umbraref11_Reader_Num_rd N 8 (S_umbraref11_Reader.mk B At E) = some (B, At', e', v) := h2
  have hv : I64 v = if v < 9223372036854775808 then v else v - 18446744073709551616 := by rw [I64_e]; split <;> omega
  have hm : p_umbraref11_most N 8 = some 18446744073709551615 := mostR N hN 8 (by decide)
  rw [h1, h2, Option.bind_some, Option.bind_some]
  simp only [letO_e, show decide ((8 : Int) < 1) = false from rfl, show decide ((8 : Int) > 8) = false from rfl, cond_false, show I64 (64 - I64 (8 * 8)) = ((0 : Nat) : Int) from rfl]
  rw [shlO_ok .i64 (by omega), Option.bind_some, shrO_ok .i64 (by omega), Option.bind_some, shlI _ 0 (by omega), shr_e .i64 _ _ 0 rfl (by decide), show (2 : Int) ^ 0 = 1 from rfl, Int.mul_one, Int.ediv_one, I64_id (x := I64 v) (I64_lo _) (I64_hi _), hm]
  by_cases he : e' = 0
  · subst he
    rw [show ((0 : Int) != 0) = false from rfl, cond_false, Option.bind_some, Option.bind_some, show U64 (Int.tdiv 18446744073709551615 2) = 9223372036854775807 from rfl]
    refine ⟨b', 0, At', I64 v, rfl, ?_, h3, h8, ?_⟩
    · by_cases hb : v > 9223372036854775807
      · rw [dt hb, cond_true, U64_id (by omega) (by omega), I64_id (x := 18446744073709551615 - v) (by omega) (by omega), I64_id (x := 0 - (18446744073709551615 - v)) (by omega) (by omega), I64_id (x := 0 - (18446744073709551615 - v) - 1) (by omega) (by omega), hv, if_neg (by omega)]
        congr 4
        omega
      · rw [df hb, cond_false]
    · intro hE a ha hal
      obtain ⟨q1, q2, q3⟩ := h6 hE a ha hal
      exact ⟨rfl, q2, by rw [q3]⟩
  · rw [show (e' != 0) = true by simpa using he, cond_true]
    have hv0 := h5 he
    subst hv0
    refine ⟨b', e', At', 0, rfl, rfl, h3, h8, ?_⟩
    intro hE a ha hal
    exact absurd (h6 hE a ha hal).1 he
end Go.UK
