/- A part of the proof: what the functions of the program compute. -/
import Derived.Test.YtcaadpceoajapaaV3
namespace Go.UK
open Go Go.Proofs
set_option maxRecDepth 20000
set_option linter.all false

theorem fixOf (N : Nat) {a : Int} (ha : 0 ≤ a) (ha' : a < 2147483648) : p_fix_Of N a = some (a * 4294967296) := by
  unfold p_fix_Of
  rw [wmul _ ha (by omega) (by omega) (by omega)]
  simp only [Option.bind_some]
  rw [near _ (by omega) (by omega) (by omega)]
  simp only [Option.bind_some]
  unfold sat
  rw [if_neg (by omega)]
  congr 1
  omega
theorem fixFloor (N : Nat) (a : Int) : p_fix_Floor N a = some (a / 4294967296) := by unfold p_fix_Floor; rw [shr32i]

abbrev toneQ (a : Int) : Int := a * 4294967296 / sat (a + 4294967296)
def toneV (a : Int) : Int := if a ≤ 0 then 0 else toneQ a * 65535 / 4294967296

theorem toneQ_rng {a : Int} (ha : 0 < a) (ha' : a < 9223372036854775808) : 0 ≤ toneQ a ∧ toneQ a ≤ 4294967296 := by
  have s4 : 0 < sat (a + 4294967296) := by unfold sat; split <;> omega
  refine ⟨Int.ediv_nonneg (by omega) (by omega), ?_⟩
  have : toneQ a < 4294967297 := by
    refine Int.ediv_lt_of_lt_mul s4 ?_
    unfold sat; split <;> omega
  omega

theorem tone (k : Nat) {a : Int} (ha : -9223372036854775808 ≤ a) (ha' : a < 9223372036854775808) : p_film_Tone (k + 3) a = some (toneV a) := by
  unfold p_film_Tone toneV
  by_cases h : a ≤ 0
  · rw [show decide (a ≤ 0) = true by simpa using h, if_pos h]
    rfl
  · rw [show decide (a ≤ 0) = false by simpa using h, if_neg h]
    simp only [cond_false]
    rw [fixAdd k (by omega) ha' (by omega) (by omega), fixOf _ (by omega) (by omega)]
    simp only [Option.bind_some]
    obtain ⟨s1, s2⟩ := sat_rng (show 0 ≤ a + 4294967296 by omega)
    have s3 : a / 4294967296 < sat (a + 4294967296) := by unfold sat; split <;> omega
    have s4 : 0 < sat (a + 4294967296) := by unfold sat; split <;> omega
    obtain ⟨q1, q2⟩ := toneQ_rng (show 0 < a by omega) ha'
    rw [divs k (by omega) ha' s4 s2 s3]
    simp only [Option.bind_some]
    change 0 ≤ a * 4294967296 / sat (a + 4294967296) at q1
    change a * 4294967296 / sat (a + 4294967296) ≤ _ at q2
    change _ = some (a * 4294967296 / sat (a + 4294967296) * 65535 / 4294967296)
    generalize a * 4294967296 / sat (a + 4294967296) = q at *
    have e : sat q = q := by unfold sat; rw [if_neg (by omega)]
    rw [e, fixMul k (by omega) (by omega) (by omega) (by omega)]
    simp only [Option.bind_some, fixFloor]
    rw [show q * (65535 * 4294967296) / 4294967296 = q * 65535 by omega]
    congr 2
    unfold sat; rw [if_neg (by omega)]

theorem ediv_mono {x y z w : Int} (hy : 0 < y) (hw : 0 < w) (h : x * w ≤ z * y) : x / y ≤ z / w := by
  rw [Int.le_ediv_iff_mul_le hw]
  have h1 : x / y * y ≤ x := Int.ediv_mul_le x (Int.ne_of_gt hy)
  have h2 : (x / y * w) * y ≤ z * y := by
    calc (x / y * w) * y = (x / y * y) * w := by grind
      _ ≤ x * w := Int.mul_le_mul_of_nonneg_right h1 (Int.le_of_lt hw)
      _ ≤ z * y := h
  exact Int.le_of_mul_le_mul_right h2 hy

theorem toneQ_mono {a b : Int} (ha : 0 < a) (hab : a ≤ b) (hb : b < 9223372036854775808) : toneQ a ≤ toneQ b := by
  have s4 : 0 < sat (a + 4294967296) := by unfold sat; split <;> omega
  have s5 : 0 < sat (b + 4294967296) := by unfold sat; split <;> omega
  refine ediv_mono s4 s5 ?_
  have key : a * sat (b + 4294967296) ≤ b * sat (a + 4294967296) := by
    unfold sat
    split <;> split
    · omega
    · rename_i h1 h2
      calc a * 9223372036854775807 ≤ a * (b + 4294967296) := Int.mul_le_mul_of_nonneg_left (by omega) (by omega)
        _ = a * b + 4294967296 * a := by grind
        _ ≤ a * b + 4294967296 * b := by omega
        _ = b * (a + 4294967296) := by grind
    · omega
    · calc a * (b + 4294967296) = a * b + 4294967296 * a := by grind
        _ ≤ a * b + 4294967296 * b := by omega
        _ = b * (a + 4294967296) := by grind
  calc a * 4294967296 * sat (b + 4294967296) = (a * sat (b + 4294967296)) * 4294967296 := by grind
    _ ≤ (b * sat (a + 4294967296)) * 4294967296 := Int.mul_le_mul_of_nonneg_right key (by omega)
    _ = b * 4294967296 * sat (a + 4294967296) := by grind

theorem toneV_rng {a : Int} (ha' : a < 9223372036854775808) : 0 ≤ toneV a ∧ toneV a ≤ 65535 := by
  unfold toneV
  split
  · omega
  · have := toneQ_rng (show 0 < a by omega) ha'
    change 0 ≤ toneQ a ∧ _ at this
    generalize toneQ a = q at *
    omega
theorem toneV_mono {a b : Int} (hab : a ≤ b) (hb : b < 9223372036854775808) : toneV a ≤ toneV b := by
  by_cases h : a ≤ 0
  · have := (toneV_rng hb).1
    unfold toneV at *
    rw [if_pos h]
    exact this
  · have := toneQ_mono (show 0 < a by omega) hab hb
    unfold toneV
    rw [if_neg h, if_neg (by omega)]
    generalize toneQ a = q at *
    generalize toneQ b = r at *
    omega

def farV (a : Int) : Int := imin (imax (a / 4294967296) 0) 65535
theorem far (N : Nat) (a : Int) : p_film_Far N a = some (farV a) := by
  unfold p_film_Far
  rw [fixFloor]
  rfl
theorem farV_ok {a b : Int} (hab : a ≤ b) : 0 ≤ farV a ∧ farV b ≤ 65535 ∧ farV a ≤ farV b := by
  unfold farV imin imax
  have : a / 4294967296 ≤ b / 4294967296 := Int.ediv_le_ediv (by omega) hab
  refine ⟨?_, ?_, ?_⟩ <;> (repeat' split) <;> omega

def clampV (a : Int) : Int := imin (imax a (-4294967296)) 4294967296
def sideV (a : Int) : Int := 32767 * (4294967296 + clampV a) / 4294967296
theorem clampV_rng (a : Int) : -4294967296 ≤ clampV a ∧ clampV a ≤ 4294967296 := by unfold clampV imin imax; constructor <;> (repeat' split) <;> omega
theorem clampV_mono {a b : Int} (h : a ≤ b) : clampV a ≤ clampV b := by unfold clampV imin imax; (repeat' split) <;> omega
theorem side (k : Nat) (a : Int) : p_film_Side (k + 3) a = some (sideV a) := by
  unfold p_film_Side sideV
  have hc : p_fix_Clamp (k + 3) a (-4294967296) 4294967296 = some (clampV a) := rfl
  obtain ⟨h1, h2⟩ := clampV_rng a
  rw [hc, fixOf _ (by omega) (by omega)]
  simp only [Option.bind_some]
  generalize clampV a = c at *
  rw [fixAdd k (by omega) (by omega) (by omega) (by omega)]
  simp only [Option.bind_some]
  have e : sat (4294967296 + c) = 4294967296 + c := by unfold sat; rw [if_neg (by omega)]
  rw [e, fixMul k (by omega) (by omega) (by omega) (by omega)]
  simp only [Option.bind_some, fixFloor]
  have hx : 32767 * 4294967296 * (4294967296 + c) / 4294967296 = 32767 * (4294967296 + c) := by omega
  rw [hx]
  congr 2
  unfold sat; rw [if_neg (by omega)]
theorem sideV_ok {a b : Int} (hab : a ≤ b) : 0 ≤ sideV a ∧ sideV b ≤ 65535 ∧ sideV a ≤ sideV b := by
  unfold sideV
  have := clampV_mono hab
  have := clampV_rng a
  have := clampV_rng b
  omega

theorem worksK (k : Nat) : p_umbralaw29_works (k + 5) = some true := by kernel_rfl

theorem risesL (N k : Nat) {r2 r3 r4 r5 r6 r7 : Int} (h2 : 0 ≤ r2) (h3 : r3 ≤ 65535) (h23 : r2 ≤ r3) (h4 : 0 ≤ r4) (h5 : r5 ≤ 65535) (h45 : r4 ≤ r5) (h6 : 0 ≤ r6) (h7 : r7 ≤ 65535) (h67 : r6 ≤ r7) :
    p_umbralaw29_FilmRises_L1 N r2 r3 r4 r5 r6 r7 (k + 4) 0 = some (Sum.inl ()) := by
  have step : ∀ (j : Nat) (i : Int) (a b : Int), 0 ≤ i → i < 3 → idx ([#v[r2, r3], #v[r4, r5], #v[r6, r7]] : List (Vector Int 2)) i = some #v[a, b] → 0 ≤ a → b ≤ 65535 → a ≤ b →
      p_umbralaw29_FilmRises_L1 N r2 r3 r4 r5 r6 r7 (j + 1) i = p_umbralaw29_FilmRises_L1 N r2 r3 r4 r5 r6 r7 j (i + 1) := by
    intro j i a b hi hi' hx ha hb hab
    rw [p_umbralaw29_FilmRises_L1]
    rw [show decide (i < 3) = true by simpa using hi', cond_true, hx]
    simp only [Option.bind_some, letO_e]
    rw [show inRO 0 2 = some () from rfl, show inRO 1 2 = some () from rfl]
    have e0 : (#v[a, b] : Vector Int 2).toList[(0 : Int).toNat]? = some a := rfl
    have e1 : (#v[a, b] : Vector Int 2).toList[(1 : Int).toNat]? = some b := rfl
    simp only [Option.bind_some]
    rw [e0, e1]
    simp only [Option.bind_some]
    have e2 : decide (a > I64 (b + 1)) = false := by rw [I64_id (by omega) (by omega)]; simp; omega
    have e3 : decide (a < 0) = false := by simp; omega
    have e4 : decide (b > 65535) = false := by simp; omega
    rw [e2, e3, e4]
    simp only [cond_false, Option.bind_some]
    rw [I64_id (by omega) (by omega)]
  rw [step (k + 3) 0 r2 r3 (by omega) (by omega) rfl h2 h3 h23, step (k + 2) (0 + 1) r4 r5 (by omega) (by omega) rfl h4 h5 h45, step (k + 1) (0 + 1 + 1) r6 r7 (by omega) (by omega) rfl h6 h7 h67]
  rw [p_umbralaw29_FilmRises_L1]
  rfl

theorem filmRisesT {a b : Int} (ha : -9223372036854775808 ≤ a) (ha' : a < 9223372036854775808) (hb : -9223372036854775808 ≤ b) (hb' : b < 9223372036854775808) : p_umbralaw29_FilmRises 5 a b = some true := by
  have key : ∀ {x y : Int}, -9223372036854775808 ≤ x → x < 9223372036854775808 → -9223372036854775808 ≤ y → y < 9223372036854775808 → x ≤ y →
      (Option.bind (p_film_Tone 5 x) fun r2 => Option.bind (p_film_Tone 5 y) fun r3 => Option.bind (p_film_Far 5 x) fun r4 => Option.bind (p_film_Far 5 y) fun r5 => Option.bind (p_film_Side 5 x) fun r6 => Option.bind (p_film_Side 5 y) fun r7 =>
        Option.bind (p_umbralaw29_FilmRises_L1 5 r2 r3 r4 r5 r6 r7 5 0) fun o => sumC o (fun p8 => Option.bind (p_umbralaw29_works 5 ) fun r21 => some r21) (fun r => some r)) = some true := by
    intro x y hx hx' hy hy' hxy
    rw [tone 2 hx hx', tone 2 hy hy', far, far, side 2, side 2]
    simp only [Option.bind_some]
    obtain ⟨f1, f2, f3⟩ := farV_ok hxy
    obtain ⟨s1, s2, s3⟩ := sideV_ok hxy
    rw [risesL 5 1 (toneV_rng hx').1 (toneV_rng hy').2 (toneV_mono hxy hy') f1 f2 f3 s1 s2 s3]
    simp only [Option.bind_some, sumC]
    rw [worksK 0]
    rfl
  unfold p_umbralaw29_FilmRises
  by_cases h : a > b
  · rw [show decide (a > b) = true by simpa using h]
    simp only [cond_true, Option.bind_some]
    exact key hb hb' ha ha' (by omega)
  · rw [show decide (a > b) = false by simpa using h]
    simp only [cond_false, Option.bind_some]
    exact key ha ha' hb hb' (by omega)

theorem filmRisesFn (a : Int) (ha : (Lit.int .i64 a).wf = true) (b : Int) (hb : (Lit.int .i64 b).wf = true) : FnM Try.prog 8 [] [eI .i64 a, eI .i64 b] (eB true) [] :=
  umbralaw29_FilmRises_ok (filmRisesT (wf_i64 ha).1 (wf_i64 ha).2 (wf_i64 hb).1 (wf_i64 hb).2)
end Go.UK
