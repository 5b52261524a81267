/- A part of the proof: what the functions of the program compute. -/
import Derived.Test.YtcaadpceoajapaaV7
import Derived.Test.YtcaadpceoajapaaV8
namespace Go.UK
open Go Go.Proofs
set_option maxRecDepth 20000
set_option maxHeartbeats 2000000
set_option linter.all false

/-- sizes divided, towards less -/
def divV (V Y : Int) (m : Bool) : Int := cond m (-((V + Y - 1) / Y)) (V / Y)
abbrev ab (a : Int) : Int := if a < 0 then -a else a

theorem ceil_e {V Y : Int} (hY : 0 < Y) : (V + Y - 1) / Y = if V % Y > 0 then V / Y + 1 else V / Y := by
  have h := Int.mul_ediv_add_emod V Y
  have h1 := Int.emod_nonneg V (Int.ne_of_gt hY)
  have h2 := Int.emod_lt_of_pos V hY
  generalize V / Y = q at *
  generalize V % Y = r at *
  split
  · have e : V + Y - 1 = (r - 1) + Y * (q + 1) := by rw [← h]; grind
    rw [e, Int.add_mul_ediv_left _ _ (Int.ne_of_gt hY), Int.ediv_eq_zero_of_lt (by omega) (by omega)]
    omega
  · have e : V + Y - 1 = (Y - 1) + Y * q := by rw [← h]; have : r = 0 := by omega
                                               rw [this]; grind
    rw [e, Int.add_mul_ediv_left _ _ (Int.ne_of_gt hY), Int.ediv_eq_zero_of_lt (by omega) (by omega)]
    omega

theorem wdivA (k : Nat) {w : S_api_Wide} {y : Int} (hw : wok w) (hv : -39614081257132168796771975168 ≤ wval w) (hv' : wval w ≤ 39614081257132168796771975168) (hy : in64 y) (hy0 : y ≠ 0) :
    ∃ r, p_wide_Div (k + 3) w y = some r ∧ wok r.1 ∧ wval r.1 = divV (ab (wval w)) (ab y) (!(decide (wval w < 0) == decide (y < 0))) := by
  obtain ⟨⟨w1, w2⟩, w3, w4⟩ := hw
  have hneg : w.gHi < 0 ↔ wval w < 0 := by show _ ↔ w.gHi * 18446744073709551616 + w.gLo < 0; omega
  have hp : ∃ p : Int × Int, (cond (decide (w.gHi < 0)) (Option.bind (p_wide_turned (k + 3) (U64 w.gHi) w.gLo) fun r2 => some ((r2.1, r2.2))) (some ((U64 w.gHi, w.gLo)))) = some p ∧ 0 ≤ p.1 ∧ 0 ≤ p.2 ∧ p.2 < 18446744073709551616 ∧ p.1 * 18446744073709551616 + p.2 = ab (wval w) := by
    by_cases hs : w.gHi < 0
    · rw [dt hs, cond_true]
      obtain ⟨h', l', e, a1, a2, a3, a4, a5⟩ := wturned (k + 3) (h := U64 w.gHi) (l := w.gLo) (U64_lo _) (U64_hi _) w3 w4
      rw [e]
      refine ⟨(h', l'), rfl, a1, a3, a4, ?_⟩
      rw [show ab (wval w) = -(wval w) from if_pos (hneg.1 hs)]
      show h' * 18446744073709551616 + l' = -(w.gHi * 18446744073709551616 + w.gLo)
      rw [U64_e] at a5
      omega
    · rw [df hs, cond_false]
      refine ⟨(U64 w.gHi, w.gLo), rfl, U64_lo _, w3, w4, ?_⟩
      rw [show ab (wval w) = wval w from if_neg (fun h => hs (hneg.2 h))]
      show U64 w.gHi * 18446744073709551616 + w.gLo = w.gHi * 18446744073709551616 + w.gLo
      rw [U64_id (by omega) (by omega)]
  obtain ⟨⟨h, l⟩, e1, p1, p2, p3, p4⟩ := hp
  dsimp only at p1 p2 p3 p4
  have hY : 0 < ab y ∧ ab y ≤ 9223372036854775808 := by obtain ⟨y1, y2⟩ := hy; unfold ab; split <;> omega
  have hVb : ab (wval w) ≤ 39614081257132168796771975168 := by unfold ab; split <;> omega
  unfold p_wide_Div
  rw [show (y == 0) = false by simpa using hy0, cond_false, e1, wsz (k + 3) hy]
  simp only [Option.bind_some]
  simp only [show (if y < 0 then -y else y) = ab y from rfl]
  rw [show decide (w.gHi < 0) = decide (wval w < 0) by rw [decide_eq_decide]; exact hneg]
  generalize hm : (!(decide (wval w < 0) == decide (y < 0))) = m
  rw [← p4] at hVb ⊢
  generalize ab y = Y at *
  obtain ⟨Y1, Y2⟩ := hY
  rw [div64_0 _ Y1 p1 (by omega)]
  simp only [Option.bind_some]
  have hr := Int.emod_nonneg h (Int.ne_of_gt Y1)
  have hr' := Int.emod_lt_of_pos h Y1
  rw [div64r k Y1 (by omega) hr hr' p2 p3]
  simp only [Option.bind_some]
  have hV := Int.mul_ediv_add_emod h Y
  have hq0 : 0 ≤ h / Y := Int.ediv_nonneg p1 (Int.le_of_lt Y1)
  have hqle : h / Y ≤ h := Int.ediv_le_self _ p1
  have eV : h * 18446744073709551616 + l = (h % Y * 18446744073709551616 + l) + Y * (h / Y * 18446744073709551616) := by
    have : h * 18446744073709551616 = (Y * (h / Y) + h % Y) * 18446744073709551616 := by rw [hV]
    grind
  have dV : (h * 18446744073709551616 + l) / Y = (h % Y * 18446744073709551616 + l) / Y + h / Y * 18446744073709551616 := by
    rw [eV, Int.add_mul_ediv_left _ _ (Int.ne_of_gt Y1)]
  have mV : (h * 18446744073709551616 + l) % Y = (h % Y * 18446744073709551616 + l) % Y := by
    rw [eV, Int.add_mul_emod_self_left]
  have q20 : 0 ≤ (h % Y * 18446744073709551616 + l) / Y := Int.ediv_nonneg (by omega) (Int.le_of_lt Y1)
  have q21 : (h % Y * 18446744073709551616 + l) / Y < 18446744073709551616 := Int.ediv_lt_of_lt_mul Y1 (by omega)
  have r0 : 0 ≤ (h % Y * 18446744073709551616 + l) % Y := Int.emod_nonneg _ (Int.ne_of_gt Y1)
  have r1 : (h % Y * 18446744073709551616 + l) % Y < Y := Int.emod_lt_of_pos _ Y1
  rw [show divV (h * 18446744073709551616 + l) Y m = cond m (-(if (h % Y * 18446744073709551616 + l) % Y > 0 then (h % Y * 18446744073709551616 + l) / Y + h / Y * 18446744073709551616 + 1 else (h % Y * 18446744073709551616 + l) / Y + h / Y * 18446744073709551616)) ((h % Y * 18446744073709551616 + l) / Y + h / Y * 18446744073709551616) by
    unfold divV; rw [ceil_e Y1, mV, dV]]
  clear eV dV mV hV
  generalize (h % Y * 18446744073709551616 + l) / Y = q2 at *
  generalize (h % Y * 18446744073709551616 + l) % Y = r at *
  generalize h / Y = q1 at *
  have hq1b : q1 ≤ 2147483648 := by omega
  simp only [letO_e]
  have fin : ∀ (c1 c2 c3 : Int) (m' : Bool), m' = m → 0 ≤ c1 → c1 ≤ 4294967296 → 0 ≤ c2 → c2 < 18446744073709551616 → (cond m (-(c1 * 18446744073709551616 + c2)) (c1 * 18446744073709551616 + c2)) = (cond m (-(if r > 0 then q2 + q1 * 18446744073709551616 + 1 else q2 + q1 * 18446744073709551616)) (q2 + q1 * 18446744073709551616)) →
      ∃ x, (Option.bind (p_wide_signed (k + 3) c1 c2 m') fun r12 => cond (!r12.2) (some ((S_api_Wide.mk 0 0, 0, false))) (Option.bind (cond (decide (y < 0)) (some (U64 (0 - c3))) (some c3)) fun p13 => some ((r12.1, I64 p13, true)))) = some x ∧ wok x.1 ∧ wval x.1 = (cond m (-(if r > 0 then q2 + q1 * 18446744073709551616 + 1 else q2 + q1 * 18446744073709551616)) (q2 + q1 * 18446744073709551616)) := by
    intro c1 c2 c3 m' hm' d1 d2 d3 d4 d5
    subst hm'
    obtain ⟨w', f1, f2, f3⟩ := wsigned (k + 3) (h := c1) (l := c2) m' d1 d3 d4 (by omega)
    rw [f1]
    simp only [Option.bind_some, Bool.not_true, cond_false]
    cases decide (y < 0) with
    | true => exact ⟨_, rfl, f2, f3.trans d5⟩
    | false => exact ⟨_, rfl, f2, f3.trans d5⟩
  cases hmm : m with
  | false =>
    subst hmm
    simp only [cond_false, Option.bind_some]
    exact fin q1 q2 r false rfl hq0 (by omega) q20 q21 (by simp only [cond_false]; omega)
  | true =>
    subst hmm
    simp only [cond_true]
    by_cases hr9 : r > 0
    · rw [dt hr9]
      simp only [cond_true]
      have hadd : p_Add64 q2 1 0 = some ((q2 + 1 + 0) % 18446744073709551616, (q2 + 1 + 0) / 18446744073709551616) := by
        unfold p_Add64
        rw [dt q20, dt (show (0 : Int) ≤ 1 by decide), dt (show (0 : Int) ≤ 0 by decide)]
        rfl
      rw [hadd]
      simp only [Option.bind_some]
      rw [U64_id (x := q1 + _) (by omega) (by omega)]
      exact fin _ _ _ true rfl (by omega) (by omega) (by omega) (by omega) (by simp only [cond_true]; rw [if_pos hr9]; omega)
    · rw [df hr9]
      simp only [cond_false, Option.bind_some]
      exact fin q1 q2 r true rfl hq0 (by omega) q20 q21 (by simp only [cond_true]; rw [if_neg hr9]; omega)

theorem abv {a : Int} (ha : in64 a) : ab (a * 4294967296) = ab a * 4294967296 ∧ decide (a * 4294967296 < 0) = decide (a < 0) ∧ 0 ≤ ab a ∧ ab a ≤ 9223372036854775808 := by
  obtain ⟨h1, h2⟩ := ha
  refine ⟨?_, ?_, ?_, ?_⟩
  · unfold ab; split <;> split <;> omega
  · rw [decide_eq_decide]; omega
  · unfold ab; split <;> omega
  · unfold ab; split <;> omega

theorem fixDivA (k : Nat) {a y : Int} (ha : in64 a) (hy : in64 y) (hy0 : y ≠ 0) : p_fix_Div (k + 3) a y = some (S64 (divV (ab a * 4294967296) (ab y) (!(decide (a < 0) == decide (y < 0))))) := by
  unfold p_fix_Div
  rw [show (y == 0) = false by simpa using hy0, cond_false]
  obtain ⟨w, e1, e2, e3⟩ := wmulA (k + 3) ha (b := 4294967296) ⟨by decide, by decide⟩
  obtain ⟨b1, b2, b3, b4⟩ := abv ha
  have hh := ha
  obtain ⟨a1, a2⟩ := hh
  obtain ⟨r, f1, f2, f3⟩ := wdivA k e2 (by rw [e3]; omega) (by rw [e3]; omega) hy hy0
  rw [e1]
  simp only [Option.bind_some]
  rw [f1]
  simp only [Option.bind_some]
  rw [nearA _ f2, f3, e3, b1, b2]
  rfl

theorem rDivC (k : Nat) {A Y : Int} (m : Bool) (b3 : 0 ≤ A) (b4 : A ≤ 9223372036854775808) (Y1 : 0 < Y) (Y2 : Y ≤ 9223372036854775808) :
    (cond (decide (shr .u64 A 32 ≥ Y)) (Option.bind (p_umbraref02_Near (k + 3) 0 m true) fun r6 => some r6) (Option.bind (p_math_bits_Div64 (k + 3) (shr .u64 A 32) (shl .u64 A 32) Y) fun r7 =>
      Option.bind (cond (cond m (decide (r7.2 > 0)) false) (some ((U64 (r7.1 + 1), (U64 (r7.1 + 1)) == 0))) (some ((r7.1, false)))) fun p8 => Option.bind (p_umbraref02_Near (k + 3) p8.1 m p8.2) fun r10 => some r10)) = some (S64 (divV (A * 4294967296) Y m)) := by
  rw [shr32u]
  have hc := ceil_e (V := A * 4294967296) Y1
  by_cases hbig : A / 4294967296 ≥ Y
  · rw [dt hbig, cond_true, rnear _ _ _ (by decide) (by decide)]
    simp only [Option.bind_some, cond_true]
    have hq : 18446744073709551616 ≤ A * 4294967296 / Y := by
      rw [Int.le_ediv_iff_mul_le Y1]; omega
    have hq2 : 18446744073709551616 ≤ (A * 4294967296 + Y - 1) / Y := by rw [hc]; split <;> omega
    congr 1
    unfold divV S64
    cases m with
    | true => simp only [cond_true]; rw [if_pos (by omega)]
    | false => simp only [cond_false]; rw [if_neg (by omega), if_pos (by omega)]
  · rw [df hbig, cond_false, shl32]
    rw [div64r k Y1 (by omega) (by omega) (by omega) (by omega) (by omega)]
    simp only [Option.bind_some]
    have eA : A / 4294967296 * 18446744073709551616 + A * 4294967296 % 18446744073709551616 = A * 4294967296 := by omega
    rw [eA]
    have q0 : 0 ≤ A * 4294967296 / Y := Int.ediv_nonneg (by omega) (Int.le_of_lt Y1)
    have q1 : A * 4294967296 / Y < 18446744073709551616 := Int.ediv_lt_of_lt_mul Y1 (by omega)
    unfold divV
    rw [hc]
    generalize A * 4294967296 / Y = q at *
    generalize A * 4294967296 % Y = r at *
    cases m with
    | false =>
      simp only [cond_false, Option.bind_some]
      rw [rnear _ _ _ q0 q1]
      rfl
    | true =>
      simp only [cond_true]
      by_cases hr : r > 0
      · rw [dt hr, if_pos hr]
        simp only [cond_true, Option.bind_some]
        rw [rnear _ _ _ (U64_lo _) (U64_hi _)]
        simp only [Option.bind_some, cond_true]
        congr 1
        by_cases ho : q + 1 = 18446744073709551616
        · rw [ho, show U64 18446744073709551616 = 0 by decide]
          rfl
        · have hu : U64 (q + 1) = q + 1 := U64_id (by omega) (by omega)
          rw [hu, show (q + 1 == 0) = false by simp; omega, cond_false]
      · rw [df hr, if_neg hr]
        simp only [cond_false, Option.bind_some]
        rw [rnear _ _ _ q0 q1]
        rfl

theorem rDivA (k : Nat) {a y : Int} (ha : in64 a) (hy : in64 y) (hy0 : y ≠ 0) : p_umbraref02_Div (k + 3) a y = some (S64 (divV (ab a * 4294967296) (ab y) (!(decide (a < 0) == decide (y < 0))))) := by
  unfold p_umbraref02_Div
  rw [show (y == 0) = false by simpa using hy0]
  simp only [letO_e, cond_false]
  rw [rsz _ ha, rsz _ hy]
  simp only [Option.bind_some]
  obtain ⟨b1, b2, b3, b4⟩ := abv ha
  have hY : 0 < ab y ∧ ab y ≤ 9223372036854775808 := by obtain ⟨y1, y2⟩ := hy; unfold ab; split <;> omega
  exact rDivC k (A := ab a) (Y := ab y) _ b3 b4 hY.1 hY.2

/-- the two divisions are one -/
theorem divEq (k : Nat) {a y : Int} (ha : in64 a) (hy : in64 y) (hy0 : y ≠ 0) : ∃ q, in64 q ∧ p_fix_Div (k + 3) a y = some q ∧ p_umbraref02_Div (k + 3) a y = some q :=
  ⟨_, S64_in _, fixDivA k ha hy hy0, rDivA k ha hy hy0⟩
end Go.UK
