/- A part of the proof: what the functions of the program compute. -/
import Derived.Test.YtcaadpceoajapaaZ8
namespace Go.UK
open Go Go.Proofs
set_option maxRecDepth 20000
set_option maxHeartbeats 2000000
set_option linter.all false
/-! the reference's three loops -/
theorem nest {N w h d : Nat} (hN : 16385 < N) (hw : 1 ≤ w) (hw2 : w ≤ 64) (hh2 : h ≤ 64) (hd : 1 ≤ d) (hd2 : d ≤ 4) (num : Nat → Nat → Nat → Int)
    (F3 : Nat → Nat → Nat → List Int → Int → Option (List Int)) (F2 : Nat → Nat → List Int → Int → Option (List Int)) (F1 : Nat → List Int → Int → Option (List Int))
    (s3 : ∀ x y, x < w → y < h → ∀ k s i, i < d → s.length ≤ 200000 → F3 x y (k + 1) s (i : Int) = F3 x y k (s ++ [num x y i]) (I64 ((i : Int) + 1))) (e3 : ∀ x y k s, F3 x y (k + 1) s (d : Int) = some s)
    (s2 : ∀ y, y < h → ∀ k s i, i < w → F2 y (k + 1) s (i : Int) = Option.bind (F3 i y N s 0) fun p => F2 y k p (I64 ((i : Int) + 1))) (e2 : ∀ y k s, F2 y (k + 1) s (w : Int) = some s)
    (s1 : ∀ k s i, i < h → F1 (k + 1) s (i : Int) = Option.bind (F2 i N s 0) fun p => F1 k p (I64 ((i : Int) + 1))) (e1 : ∀ k s, F1 (k + 1) s (h : Int) = some s) : F1 N [] 0 = some (eachV w h d num) := by
  have b1 : w * d ≤ 64 * 4 := Nat.mul_le_mul hw2 hd2
  rw [← eachV_flat (h := h) hw hd num]
  have L4 : ∀ (x y : Nat), x < w → y < h → ∀ s : List Int, s.length ≤ 100000 → F3 x y N s 0 = some (s ++ (List.range d).map fun k => num x y k) := fun x y hx hy s hs =>
    rowLoop (n := d) (by omega) (fun k => num x y k) (F3 x y) s hs (fun k s i hi hs => s3 x y hx hy k s i hi hs) (e3 x y) (by omega)
  have L3 : ∀ (y : Nat), y < h → ∀ s : List Int, s.length ≤ 50000 → F2 y N s 0 = some (s ++ (List.range w).flatMap fun x => (List.range d).map fun k => num x y k) := fun y hy s hs =>
    rowsLoop (n := w) (m := d) hw2 (by omega) (fun x => (List.range d).map fun k => num x y k) (by simp) (F2 y) s hs (fun k s i hi hs => by rw [s2 y hy k s i hi, L4 i y hi hy s hs, Option.bind_some]) (e2 y) (by omega)
  have := loopFlat0 h (by omega) (fun y => (List.range w).flatMap fun x => (List.range d).map fun k => num x y k) (fun s i => s.length = i * (w * d)) F1 (fun s i hi hs => by
      rw [List.length_append, hs, flat_len (m := d) _ (by simp), Nat.succ_mul]) (fun k s i hi hs => by
      have hb : i * (w * d) ≤ 64 * 256 := Nat.mul_le_mul (by omega) b1
      rw [s1 k s i hi, L3 i hi s (by omega), Option.bind_some]) e1 (N := N) (by omega) (s := []) (by simp)
  rw [this]; rfl
/-! Double, Half -/
theorem refDouble (N : Nat) (hN : 16385 < N) {p : S_api_Plane} {w h d : Nat} (ok : PlaneOK p w h d) (hs : Small42 p N) (hc : chk p = 0) :
    p_umbraref42_Double N p = some (if w ≤ 32 ∧ h ≤ 32 then (mkP p (2 * w) (2 * h) d (fun x y k => atV p w h d ((x / 2 : Nat) : Int) ((y / 2 : Nat) : Int) k), 0) else none42 2) := by
  unfold p_umbraref42_Double
  rw [refCheck N p hs, hc, Option.bind_some, letO_e, ok.W, ok.H, show ((0 : Int) != 0) = false from rfl, cond_false]
  have hm : cond (decide ((w : Int) > 32)) true (decide ((h : Int) > 32)) = !(decide (w ≤ 32 ∧ h ≤ 32)) := by
    by_cases hh : w ≤ 32 ∧ h ≤ 32
    · rw [dt hh, df (show ¬ (w : Int) > 32 by omega), df (show ¬ (h : Int) > 32 by omega)]; rfl
    · rw [df hh]
      by_cases h1 : (w : Int) > 32
      · rw [dt h1]; rfl
      · rw [df h1, dt (show (h : Int) > 32 by omega)]; rfl
  rw [hm]
  have ha := ok.w1; have hb := ok.h1; have hd := ok.d1
  have e2 : ∀ z : Nat, z ≤ 64 → I64 (2 * (z : Int)) = ((2 * z : Nat) : Int) := fun z hz => by rw [I64_id (by omega) (by omega)]; omega
  have et : ∀ z : Nat, z < 1000 → I64 ((z : Int).tdiv 2) = ((z / 2 : Nat) : Int) := fun z hz => by rw [show (z : Int).tdiv 2 = ((z / 2 : Nat) : Int) from rfl, I64_id (by omega) (by omega)]
  by_cases hh : w ≤ 32 ∧ h ≤ 32
  · rw [dt hh, if_pos hh]
    have e := nest (N := N) (w := 2 * w) (h := 2 * h) hN (by omega) (by omega) (by omega) hd ok.d2 (fun x y k => atV p w h d ((x / 2 : Nat) : Int) ((y / 2 : Nat) : Int) k)
      (fun x y => p_umbraref42_Double_L3 N p (x : Int) (y : Int)) (fun y => p_umbraref42_Double_L2 N p (y : Int)) (p_umbraref42_Double_L1 N p)
      (fun x y hx hy k s i hi hs => by rw [p_umbraref42_Double_L3, letO_e, ok.D, dt (show (i : Int) < (d : Int) by omega), cond_true, et x (by omega), et y (by omega), refAt N ok _ _ hi, Option.bind_some, appO8 hs (by simp), Option.bind_some])
      (fun x y k s => by rw [p_umbraref42_Double_L3, letO_e, ok.D, df (by omega), cond_false])
      (fun y hy k s i hi => by rw [p_umbraref42_Double_L2, letO_e, ok.W, e2 w ok.w2, dt (show (i : Int) < ((2 * w : Nat) : Int) by omega), cond_true])
      (fun y k s => by rw [p_umbraref42_Double_L2, letO_e, ok.W, e2 w ok.w2, df (by omega), cond_false])
      (fun k s i hi => by rw [p_umbraref42_Double_L1, letO_e, ok.H, e2 h ok.h2, dt (show (i : Int) < ((2 * h : Nat) : Int) by omega), cond_true])
      (fun k s => by rw [p_umbraref42_Double_L1, letO_e, ok.H, e2 h ok.h2, df (by omega), cond_false])
    rw [e, e2 w ok.w2, e2 h ok.h2, ok.D]
    rfl
  · rw [df hh, if_neg hh]
    rfl
theorem refHalf4 (N : Nat) (hN : 4 < N) {p : S_api_Plane} {w h d : Nat} (ok : PlaneOK p w h d) {x y k : Nat} (hx : x < 64) (hy : y < 64) (hk : k < d) :
    p_umbraref42_Half_L4 N ((2 * x : Nat) : Int) ((2 * y : Nat) : Int) p (k : Int) N 2 0 = some (I64 (I64 (I64 (I64 (2 + atV p w h d ((2 * x : Nat) : Int) ((2 * y : Nat) : Int) k) + atV p w h d ((2 * x + 1 : Nat) : Int) ((2 * y : Nat) : Int) k) + atV p w h d ((2 * x : Nat) : Int) ((2 * y + 1 : Nat) : Int) k) + atV p w h d ((2 * x + 1 : Nat) : Int) ((2 * y + 1 : Nat) : Int) k)) := by
  have := loopFold0 4 (by decide) (fun s i => I64 (s + atV p w h d ((2 * x + i % 2 : Nat) : Int) ((2 * y + i / 2 : Nat) : Int) k)) (p_umbraref42_Half_L4 N ((2 * x : Nat) : Int) ((2 * y : Nat) : Int) p (k : Int)) (fun j s i hi => by
    rw [p_umbraref42_Half_L4, dt (show (i : Int) < 4 by omega), cond_true, letO_e, letO_e]
    have e1 : (i : Int).tmod 2 = ((i % 2 : Nat) : Int) := rfl
    have e2 : I64 ((i : Int).tdiv 2) = ((i / 2 : Nat) : Int) := by rw [show (i : Int).tdiv 2 = ((i / 2 : Nat) : Int) from rfl, I64_id (by omega) (by omega)]
    rw [e1, e2, I64_id (x := ((2 * x : Nat) : Int) + ((i % 2 : Nat) : Int)) (by omega) (by omega), I64_id (x := ((2 * y : Nat) : Int) + ((i / 2 : Nat) : Int)) (by omega) (by omega), ← Int.natCast_add, ← Int.natCast_add, refAt N ok _ _ hk, Option.bind_some]) (fun j s => by rw [p_umbraref42_Half_L4, df (by omega), cond_false]) hN 2
  rw [this]
  rfl
theorem refHalf (N : Nat) (hN : 16385 < N) {p : S_api_Plane} {w h d : Nat} (ok : PlaneOK p (2 * w) (2 * h) d) (hw : 1 ≤ w) (hh : 1 ≤ h) (hs : Small42 p N) (hc : chk p = 0) :
    p_umbraref42_Half N p = some (mkP p w h d (halfV p (2 * w) (2 * h) d), 0) := by
  unfold p_umbraref42_Half
  have a1 := ok.w2; have a2 := ok.h2
  rw [refCheck N p hs, hc, Option.bind_some, letO_e, letO_e, ok.W, ok.H]
  have e0 : ∀ z : Nat, (((2 * z : Nat) : Int).tmod 2 != 0) = false := fun z => by rw [Int.tmod_eq_emod_of_nonneg (by omega)]; simp
  have e1 : ∀ z : Nat, z ≤ 64 → I64 (((2 * z : Nat) : Int).tdiv 2) = (z : Int) := fun z hz => by rw [show ((2 * z : Nat) : Int).tdiv 2 = ((2 * z / 2 : Nat) : Int) from rfl, I64_id (by omega) (by omega)]; omega
  rw [show ((0 : Int) != 0) = false from rfl, cond_false, e0, e0, e1 w (by omega), e1 h (by omega)]
  have es : ∀ i : Nat, i < 64 → I64 ((2 : Int) * (i : Int) + 2) = 2 * I64 ((i : Int) + 1) := fun i hi => by rw [I64_id (by omega) (by omega), I64_id (by omega) (by omega)]; omega
  have ez : (2 : Int) * ((0 : Nat) : Int) = 0 := rfl
  have e := nest (N := N) (w := w) (h := h) hN hw (by omega) (by omega) ok.d1 ok.d2 (halfV p (2 * w) (2 * h) d)
    (fun x y => p_umbraref42_Half_L3 N p ((2 * x : Nat) : Int) ((2 * y : Nat) : Int)) (fun y k s i => p_umbraref42_Half_L2 N p ((2 * y : Nat) : Int) k s (2 * i)) (fun k s i => p_umbraref42_Half_L1 N p k s (2 * i))
    (fun x y hx hy k s i hi hs => by
      rw [p_umbraref42_Half_L3, letO_e, ok.D, dt (show (i : Int) < (d : Int) by omega), cond_true, refHalf4 N (by omega) ok (by omega) (by omega) hi, Option.bind_some, appO8 hs (by simp), Option.bind_some]
      unfold halfV
      obtain ⟨a1, a2⟩ := atV_rng ok ((2 * x : Nat) : Int) ((2 * y : Nat) : Int) hi
      obtain ⟨b1, b2⟩ := atV_rng ok ((2 * x + 1 : Nat) : Int) ((2 * y : Nat) : Int) hi
      obtain ⟨c1, c2⟩ := atV_rng ok ((2 * x : Nat) : Int) ((2 * y + 1 : Nat) : Int) hi
      obtain ⟨d1, d2⟩ := atV_rng ok ((2 * x + 1 : Nat) : Int) ((2 * y + 1 : Nat) : Int) hi
      generalize atV p (2 * w) (2 * h) d ((2 * x : Nat) : Int) ((2 * y : Nat) : Int) i = a at *
      generalize atV p (2 * w) (2 * h) d ((2 * x + 1 : Nat) : Int) ((2 * y : Nat) : Int) i = b at *
      generalize atV p (2 * w) (2 * h) d ((2 * x : Nat) : Int) ((2 * y + 1 : Nat) : Int) i = c at *
      generalize atV p (2 * w) (2 * h) d ((2 * x + 1 : Nat) : Int) ((2 * y + 1 : Nat) : Int) i = e at *
      rw [I64_id (x := 2 + a) (by omega) (by omega), I64_id (x := 2 + a + b) (by omega) (by omega), I64_id (x := 2 + a + b + c) (by omega) (by omega), I64_id (x := 2 + a + b + c + e) (by omega) (by omega), Int.tdiv_eq_ediv_of_nonneg (by omega), I64_id (by omega) (by omega)]
      rw [show 2 + a + b + c + e = a + b + c + e + 2 by omega])
    (fun x y k s => by rw [p_umbraref42_Half_L3, letO_e, ok.D, df (by omega), cond_false])
    (fun y hy k s i hi => by

      rw [p_umbraref42_Half_L2, ok.W, dt (show (2 : Int) * (i : Int) < ((2 * w : Nat) : Int) by omega), cond_true, es i (by omega)]
      rw [show (2 : Int) * (i : Int) = ((2 * i : Nat) : Int) by omega])
    (fun y k s => by rw [p_umbraref42_Half_L2, ok.W, df (by omega), cond_false])
    (fun k s i hi => by

      rw [p_umbraref42_Half_L1, ok.H, dt (show (2 : Int) * (i : Int) < ((2 * h : Nat) : Int) by omega), cond_true, es i (by omega)]
      rw [show (2 : Int) * (i : Int) = ((2 * i : Nat) : Int) by omega]
      rfl)
    (fun k s => by rw [p_umbraref42_Half_L1, ok.H, df (by omega), cond_false])
  have e' : p_umbraref42_Half_L1 N p N [] 0 = some (eachV w h d (halfV p (2 * w) (2 * h) d)) := e
  rw [show cond false true false = false from rfl, cond_false, e', Option.bind_some, ok.D]
  rfl
/-- what may not be made smaller -/
theorem halfOdd (N : Nat) {p : S_api_Plane} {w h d : Nat} (ok : PlaneOK p w h d) (hs : Small42 p N) (hc : chk p = 0) (ho : ¬ (w % 2 = 0 ∧ h % 2 = 0)) : p_filter_Half N p = some (none42 2) ∧ p_umbraref42_Half N p = some (none42 2) := by
  unfold p_filter_Half p_umbraref42_Half
  rw [pamCheck N p hs, refCheck N p hs, hc, Option.bind_some, Option.bind_some, letO_e, letO_e, letO_e, letO_e, ok.W, ok.H]
  have e1 : ∀ z : Nat, ((z : Int).tmod 2 == 1) = decide (z % 2 ≠ 0) := fun z => by
    rw [show (z : Int).tmod 2 = ((z % 2 : Nat) : Int) from rfl]
    rcases Nat.mod_two_eq_zero_or_one z with h | h <;> rw [h] <;> rfl
  have e2 : ∀ z : Nat, ((z : Int).tmod 2 != 0) = decide (z % 2 ≠ 0) := fun z => by
    rw [show (z : Int).tmod 2 = ((z % 2 : Nat) : Int) from rfl]
    rcases Nat.mod_two_eq_zero_or_one z with h | h <;> rw [h] <;> rfl
  rw [e1, e1, e2, e2, show ((0 : Int) != 0) = false from rfl, cond_false, cond_false]
  have : cond (decide (w % 2 ≠ 0)) true (decide (h % 2 ≠ 0)) = true := by
    by_cases h1 : w % 2 ≠ 0
    · rw [dt h1]; rfl
    · rw [df h1, dt (show h % 2 ≠ 0 by omega)]; rfl
  rw [this]
  exact ⟨rfl, rfl⟩
end Go.UK
