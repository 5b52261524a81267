/- A part of the proof: what the functions of the program compute. -/
import Derived.Test.YtcaadpceoajapaaZ1
namespace Go.UK
open Go Go.Proofs
set_option maxRecDepth 20000
set_option maxHeartbeats 2000000
set_option linter.all false
/-! a plane that may be, and its numbers -/
structure PlaneOK (p : S_api_Plane) (w h d : Nat) : Prop where
  W : p.gW = w
  H : p.gH = h
  D : p.gDeep = d
  w1 : 1 ≤ w
  w2 : w ≤ 64
  h1 : 1 ≤ h
  h2 : h ≤ 64
  d1 : 1 ≤ d
  d2 : d ≤ 4
  len : p.gData.length = w * h * d
  val : ∀ x ∈ p.gData, 0 ≤ x ∧ x ≤ 65535
theorem planeOK_of {p : S_api_Plane} (h : chk p = 0) : ∃ w h d, PlaneOK p w h d := by
  unfold chk at h
  cases hb : badDim p with
  | true => rw [hb] at h; cases h
  | false =>
    rw [hb, cond_false] at h
    cases hl : badName p.gName || badLen p with
    | true => rw [hl] at h; cases h
    | false =>
      rw [hl, cond_false] at h
      cases hv : p.gData.any badV with
      | true => rw [hv] at h; cases h
      | false =>
        have hlen : badLen p = false := by cases hx : badLen p with | true => rw [hx] at hl; simp at hl | false => rfl
        unfold badDim at hb
        simp only [Bool.or_eq_false_iff, Bool.not_eq_false', Bool.and_eq_true, decide_eq_true_eq] at hb
        obtain ⟨⟨⟨a1, a2⟩, a3, a4⟩, a5, a6⟩ := hb
        obtain ⟨w, hw⟩ := Int.eq_ofNat_of_zero_le (show 0 ≤ p.gW by omega)
        obtain ⟨h', hh⟩ := Int.eq_ofNat_of_zero_le (show 0 ≤ p.gH by omega)
        obtain ⟨d, hd⟩ := Int.eq_ofNat_of_zero_le (show 0 ≤ p.gDeep by omega)
        refine ⟨w, h', d, hw, hh, hd, by omega, by omega, by omega, by omega, by omega, by omega, ?_, ?_⟩
        · unfold badLen at hlen
          simp only [bne_eq_false_iff_eq] at hlen
          rw [hw, hh, hd] at hlen
          have b1 : w * h' ≤ 64 * 64 := Nat.mul_le_mul (by omega) (by omega)
          have b2 : w * h' * d ≤ 64 * 64 * 4 := Nat.mul_le_mul b1 (by omega)
          have e1 : (w : Int) * (h' : Int) = ((w * h' : Nat) : Int) := by simp
          rw [e1, I64_id (x := ((w * h' : Nat) : Int)) (by omega) (by omega)] at hlen
          have e2 : ((w * h' : Nat) : Int) * (d : Int) = ((w * h' * d : Nat) : Int) := by simp
          rw [e2, I64_id (by omega) (by omega)] at hlen
          omega
        · intro x hx
          have := List.any_eq_false.1 hv x hx
          unfold badV at this
          simp only [Bool.not_eq_true', Bool.and_eq_false_iff, decide_eq_false_iff_not] at this
          omega
/-- the nearest place that there is -/
def clp (x : Int) (w : Nat) : Nat := if x < 0 then 0 else if (w : Int) ≤ x then w - 1 else x.toNat
theorem clp_lt {x : Int} {w : Nat} (h : 1 ≤ w) : clp x w < w := by unfold clp; (repeat' split) <;> omega
theorem clp_id {x w : Nat} (h : x < w) : clp (x : Int) w = x := by unfold clp; rw [if_neg (by omega), if_neg (by omega)]; rfl
/-- its number in the plane -/
def pix (w d x y k : Nat) : Nat := (y * w + x) * d + k
theorem pix_lt {w h d x y k : Nat} (hx : x < w) (hy : y < h) (hk : k < d) : pix w d x y k < w * h * d := by
  unfold pix
  have h1 : y * w + x + 1 ≤ w * h := by
    calc y * w + x + 1 ≤ y * w + w := by omega
      _ = (y + 1) * w := by rw [Nat.succ_mul]
      _ ≤ h * w := Nat.mul_le_mul_right _ hy
      _ = w * h := Nat.mul_comm _ _
  calc (y * w + x) * d + k < (y * w + x) * d + d := by omega
    _ = (y * w + x + 1) * d := by rw [Nat.succ_mul]
    _ ≤ w * h * d := Nat.mul_le_mul_right _ h1
def atV (p : S_api_Plane) (w h d : Nat) (x y : Int) (k : Nat) : Int := p.gData.getD (pix w d (clp x w) (clp y h) k) 0
theorem atV_get {p : S_api_Plane} {w h d : Nat} (ok : PlaneOK p w h d) (x y : Int) {k : Nat} (hk : k < d) : idx p.gData ((pix w d (clp x w) (clp y h) k : Nat) : Int) = some (atV p w h d x y k) := by
  have := pix_lt (clp_lt (x := x) ok.w1) (clp_lt (x := y) ok.h1) hk
  rw [idx_at (by rw [ok.len]; exact this)]
  unfold atV
  rw [List.getD_eq_getElem?_getD, List.getElem?_eq_getElem (by rw [ok.len]; exact this)]
  rfl
theorem atV_rng {p : S_api_Plane} {w h d : Nat} (ok : PlaneOK p w h d) (x y : Int) {k : Nat} (hk : k < d) : 0 ≤ atV p w h d x y k ∧ atV p w h d x y k ≤ 65535 := by
  have := pix_lt (clp_lt (x := x) ok.w1) (clp_lt (x := y) ok.h1) hk
  unfold atV
  rw [List.getD_eq_getElem?_getD, List.getElem?_eq_getElem (by rw [ok.len]; exact this)]
  exact ok.val _ (List.getElem_mem _)
theorem pix_e {w h d x y k : Nat} (hx : x < w) (hy : y < h) (hk : k < d) (hw : w ≤ 64) (hh : h ≤ 64) (hd : d ≤ 4) :
    I64 (I64 (I64 (I64 ((y : Int) * w) + x) * d) + k) = ((pix w d x y k : Nat) : Int) := by
  have b1 : y * w ≤ 64 * 64 := Nat.mul_le_mul (by omega) (by omega)
  have b2 : (y * w + x) * d ≤ (64 * 64 + 64) * 4 := Nat.mul_le_mul (by omega) (by omega)
  have e1 : (y : Int) * (w : Int) = ((y * w : Nat) : Int) := by simp
  rw [e1, I64_id (x := ((y * w : Nat) : Int)) (by omega) (by omega), I64_id (x := ((y * w : Nat) : Int) + x) (by omega) (by omega)]
  have e2 : (((y * w : Nat) : Int) + (x : Int)) * (d : Int) = (((y * w + x) * d : Nat) : Int) := by
    rw [← Int.natCast_add]; simp
  rw [e2, I64_id (x := (((y * w + x) * d : Nat) : Int)) (by omega) (by omega), I64_id (by omega) (by omega)]
  unfold pix
  omega
theorem filterAt (N : Nat) {p : S_api_Plane} {w h d : Nat} (ok : PlaneOK p w h d) (x y : Int) {k : Nat} (hk : k < d) : p_filter_at N p x y (k : Int) = some (atV p w h d x y k) := by
  unfold p_filter_at
  simp only [letO_e]
  rw [ok.W, ok.H, ok.D]
  have hw := ok.w1; have hw2 := ok.w2; have hh := ok.h1; have hh2 := ok.h2
  have e1 : ∀ (z : Int) (m : Nat), 1 ≤ m → m ≤ 64 → imin (imax z 0) (I64 ((m : Int) - 1)) = ((clp z m : Nat) : Int) := by
    intro z m h1 h2
    rw [I64_id (by omega) (by omega)]
    unfold imin imax clp
    (repeat' split) <;> omega
  rw [e1 x w hw hw2, e1 y h hh hh2, pix_e (clp_lt hw) (clp_lt hh) hk hw2 hh2 ok.d2, atV_get ok x y hk]
  rfl
theorem refAt (N : Nat) {p : S_api_Plane} {w h d : Nat} (ok : PlaneOK p w h d) (x y : Int) {k : Nat} (hk : k < d) : p_umbraref42_At N p x y (k : Int) = some (atV p w h d x y k) := by
  unfold p_umbraref42_At
  rw [ok.W, ok.H, ok.D]
  have hw := ok.w1; have hw2 := ok.w2; have hh := ok.h1; have hh2 := ok.h2
  have e1 : ∀ (z : Int) (m : Nat), 1 ≤ m → m ≤ 64 → cond (decide ((if z < 0 then 0 else z) ≥ (m : Int))) (some (I64 ((m : Int) - 1))) (some (if z < 0 then 0 else z)) = some ((clp z m : Nat) : Int) := by
    intro z m h1 h2
    rw [I64_id (by omega) (by omega)]
    unfold clp
    by_cases hz : z < 0
    · rw [if_pos hz, if_pos hz, df (by omega)]; rfl
    · rw [if_neg hz, if_neg hz]
      by_cases hm : (m : Int) ≤ z
      · rw [if_pos hm, dt hm, cond_true]; congr 1; omega
      · rw [if_neg hm, df hm, cond_false]; congr 1; omega
  have e0 : ∀ z : Int, cond (decide (z < 0)) (some (0 : Int)) (some z) = some (if z < 0 then 0 else z) := by
    intro z
    by_cases hz : z < 0
    · rw [dt hz, if_pos hz]; rfl
    · rw [df hz, if_neg hz]; rfl
  rw [e0, e0, Option.bind_some, Option.bind_some, e1 x w hw hw2, Option.bind_some, e1 y h hh hh2, Option.bind_some, letO_e, letO_e, pix_e (clp_lt hw) (clp_lt hh) hk hw2 hh2 ok.d2, atV_get ok x y hk]
  rfl
end Go.UK
