/- A part of the proof: what the functions of the program compute. -/
import Derived.Test.YtcaadpceoajapaaZ10
namespace Go.UK
open Go Go.Proofs
set_option maxRecDepth 20000
set_option maxHeartbeats 2000000
set_option linter.all false
/-! turned planes -/
def flV (p : S_api_Plane) (w h d : Nat) : Nat → Nat → Nat → Nat → Int
  | 0, x, y, k => atV p w h d (x : Int) (y : Int) k
  | 1, x, y, k => atV p w h d ((w - 1 - x : Nat) : Int) (y : Int) k
  | 2, x, y, k => atV p w h d (x : Int) ((h - 1 - y : Nat) : Int) k
  | _, x, y, k => atV p w h d (y : Int) (x : Int) k
def flP (p : S_api_Plane) (w h d : Nat) (κ : Nat) : S_api_Plane := if κ = 3 then mkP p h w d (flV p w h d κ) else mkP p w h d (flV p w h d κ)
theorem cast4 {κ : Nat} (h : κ < 4) : κ = 0 ∨ κ = 1 ∨ κ = 2 ∨ κ = 3 := by omega
theorem flipP (N : Nat) (hN : 16385 < N) {p : S_api_Plane} {w h d : Nat} (ok : PlaneOK p w h d) (hs : Small42 p N) (hc : chk p = 0) {κ : Nat} (hκ : κ < 4) : p_filter_Flip N p (κ : Int) = some (flP p w h d κ, 0) := by
  have ha := ok.w2; have hb := ok.h2; have ha1 := ok.w1; have hb1 := ok.h1
  unfold p_filter_Flip
  rw [pamCheck N p hs, hc, Option.bind_some, show ((0 : Int) != 0) = false from rfl, cond_false, ok.W, ok.H]
  rcases cast4 hκ with e | e | e | e <;> subst e
  · rw [show (((0 : Nat) : Int) == 0) = true from rfl, cond_true]
    unfold p_filter_each_Flip_1
    have e := eachLoop hN ok.w1 ok.w2 ok.h1 ok.h2 ok.d1 ok.d2 (flV p w h d 0) (fun x y k => p_filter_Flip_1_dddi N x y k p) (fun x y k hx hy hk => by
      unfold p_filter_Flip_1_dddi; rw [filterAt N ok _ _ hk]; rfl) (p_filter_each_Flip_1_L1 N ((w * h * d : Nat) : Int) p (w : Int) p) (fun k s i => by rw [p_filter_each_Flip_1_L1, ok.D])
    rw [letO_e, ok.D, dim_e ok.w2 ok.h2 ok.d2, e]
    rfl
  · rw [show (((1 : Nat) : Int) == 0) = false from rfl, show (((1 : Nat) : Int) == 1) = true from rfl, cond_false, cond_true]
    unfold p_filter_each_Flip_2
    have e := eachLoop hN ok.w1 ok.w2 ok.h1 ok.h2 ok.d1 ok.d2 (flV p w h d 1) (fun x y k => p_filter_Flip_2_dddi N x y k p) (fun x y k hx hy hk => by
      unfold p_filter_Flip_2_dddi
      rw [letO_e, ok.W, I64_id (x := (w : Int) - 1) (by omega) (by omega), I64_id (x := (w : Int) - 1 - x) (by omega) (by omega), show (w : Int) - 1 - x = ((w - 1 - x : Nat) : Int) by omega, filterAt N ok _ _ hk]; rfl) (p_filter_each_Flip_2_L1 N ((w * h * d : Nat) : Int) p (w : Int) p) (fun k s i => by rw [p_filter_each_Flip_2_L1, ok.D])
    rw [letO_e, ok.D, dim_e ok.w2 ok.h2 ok.d2, e]
    rfl
  · rw [show (((2 : Nat) : Int) == 0) = false from rfl, show (((2 : Nat) : Int) == 1) = false from rfl, show (((2 : Nat) : Int) == 2) = true from rfl, cond_false, cond_false, cond_true]
    unfold p_filter_each_Flip_3
    have e := eachLoop hN ok.w1 ok.w2 ok.h1 ok.h2 ok.d1 ok.d2 (flV p w h d 2) (fun x y k => p_filter_Flip_3_dddi N x y k p) (fun x y k hx hy hk => by
      unfold p_filter_Flip_3_dddi
      rw [letO_e, ok.H, I64_id (x := (h : Int) - 1) (by omega) (by omega), I64_id (x := (h : Int) - 1 - y) (by omega) (by omega), show (h : Int) - 1 - y = ((h - 1 - y : Nat) : Int) by omega, filterAt N ok _ _ hk]; rfl) (p_filter_each_Flip_3_L1 N ((w * h * d : Nat) : Int) p (w : Int) p) (fun k s i => by rw [p_filter_each_Flip_3_L1, ok.D])
    rw [letO_e, ok.D, dim_e ok.w2 ok.h2 ok.d2, e]
    rfl
  · rw [show (((3 : Nat) : Int) == 0) = false from rfl, show (((3 : Nat) : Int) == 1) = false from rfl, show (((3 : Nat) : Int) == 2) = false from rfl, show (((3 : Nat) : Int) == 3) = true from rfl, cond_false, cond_false, cond_false, cond_true]
    unfold p_filter_each_Flip_4
    have e := eachLoop hN ok.h1 ok.h2 ok.w1 ok.w2 ok.d1 ok.d2 (flV p w h d 3) (fun x y k => p_filter_Flip_4_dddi N x y k p) (fun x y k hx hy hk => by
      unfold p_filter_Flip_4_dddi; rw [filterAt N ok _ _ hk]; rfl) (p_filter_each_Flip_4_L1 N ((h * w * d : Nat) : Int) p (h : Int) p) (fun k s i => by rw [p_filter_each_Flip_4_L1, ok.D])
    rw [letO_e, ok.D, dim_e ok.h2 ok.w2 ok.d2, e]
    rfl
theorem flipBad (N : Nat) {p : S_api_Plane} (hs : Small42 p N) (hc : chk p = 0) {κ : Int} (hκ : κ < 0 ∨ 3 < κ) : p_filter_Flip N p κ = some (none42 2) ∧ p_umbraref42_Flip N p κ = some (none42 2) := by
  unfold p_filter_Flip p_umbraref42_Flip
  rw [pamCheck N p hs, refCheck N p hs, hc, Option.bind_some, Option.bind_some, show ((0 : Int) != 0) = false from rfl, cond_false, cond_false]
  rw [show (κ == 0) = false by simp; omega, show (κ == 1) = false by simp; omega, show (κ == 2) = false by simp; omega, show (κ == 3) = false by simp; omega, letO_e]
  have : cond (decide (κ < 0)) true (decide (κ > 3)) = true := by
    rcases hκ with h | h
    · rw [dt h]; rfl
    · rw [df (show ¬ κ < 0 by omega), dt (show κ > 3 from h)]; rfl
  rw [this]
  exact ⟨rfl, rfl⟩
theorem refFlip (N : Nat) (hN : 16385 < N) {p : S_api_Plane} {w h d : Nat} (ok : PlaneOK p w h d) (hs : Small42 p N) (hc : chk p = 0) {κ : Nat} (hκ : κ < 4) : p_umbraref42_Flip N p (κ : Int) = some (flP p w h d κ, 0) := by
  have ha := ok.w2; have hb := ok.h2; have ha1 := ok.w1; have hb1 := ok.h1
  have F3 : ∀ (a b : Int) (num : Nat → Int), (∀ i, i < d → atV p w h d a b i = num i) → ∀ k s i, i < d → s.length ≤ 200000 → p_umbraref42_Flip_L3 N p (a, b) (k + 1) s (i : Int) = p_umbraref42_Flip_L3 N p (a, b) k (s ++ [num i]) (I64 ((i : Int) + 1)) := by
    intro a b num hnum k s i hi hs
    rw [p_umbraref42_Flip_L3, letO_e, ok.D, dt (show (i : Int) < (d : Int) by omega), cond_true, refAt N ok _ _ hi, hnum i hi, Option.bind_some, appO8 hs (by simp), Option.bind_some]
  have E3 : ∀ (q : Int × Int) k s, p_umbraref42_Flip_L3 N p q (k + 1) s (d : Int) = some s := by
    intro q k s
    rw [p_umbraref42_Flip_L3, letO_e, ok.D, df (by omega), cond_false]
  unfold p_umbraref42_Flip
  rw [refCheck N p hs, hc, Option.bind_some, show ((0 : Int) != 0) = false from rfl, cond_false, letO_e, df (show ¬ (κ : Int) < 0 by omega), df (show ¬ (κ : Int) > 3 by omega), cond_false, cond_false, ok.W, ok.H, ok.D]
  rcases cast4 hκ with e | e | e | e <;> subst e
  · rw [show (((0 : Nat) : Int) == 3) = false from rfl, cond_false, Option.bind_some]
    have e := nest (N := N) hN ok.w1 ok.w2 ok.h2 ok.d1 ok.d2 (flV p w h d 0) (fun x y => p_umbraref42_Flip_L3 N p ((x : Int), (y : Int))) (fun y => p_umbraref42_Flip_L2 N ((w : Int), (h : Int)) ((0 : Nat) : Int) p (y : Int)) (p_umbraref42_Flip_L1 N ((w : Int), (h : Int)) ((0 : Nat) : Int) p)
      (fun x y hx hy => F3 _ _ _ (fun i hi => rfl)) (fun x y k s => E3 _ k s)
      (fun y hy k s i hi => by rw [p_umbraref42_Flip_L2, dt (show (i : Int) < (w : Int) by omega), cond_true]; rfl) (fun y k s => by rw [p_umbraref42_Flip_L2, df (show ¬ (w : Int) < (w : Int) by omega), cond_false])
      (fun k s i hi => by rw [p_umbraref42_Flip_L1, dt (show (i : Int) < (h : Int) by omega), cond_true]) (fun k s => by rw [p_umbraref42_Flip_L1, df (show ¬ (h : Int) < (h : Int) by omega), cond_false])
    rw [e]; rfl
  · rw [show (((1 : Nat) : Int) == 3) = false from rfl, cond_false, Option.bind_some]
    have e := nest (N := N) hN ok.w1 ok.w2 ok.h2 ok.d1 ok.d2 (flV p w h d 1) (fun x y => p_umbraref42_Flip_L3 N p (((w - 1 - x : Nat) : Int), (y : Int))) (fun y => p_umbraref42_Flip_L2 N ((w : Int), (h : Int)) ((1 : Nat) : Int) p (y : Int)) (p_umbraref42_Flip_L1 N ((w : Int), (h : Int)) ((1 : Nat) : Int) p)
      (fun x y hx hy => F3 _ _ _ (fun i hi => rfl)) (fun x y k s => E3 _ k s)
      (fun y hy k s i hi => by
        rw [p_umbraref42_Flip_L2, dt (show (i : Int) < (w : Int) by omega), cond_true, show (((1 : Nat) : Int) == 1) = true from rfl, cond_true, letO_e, ok.W, I64_id (x := (w : Int) - 1) (by omega) (by omega), I64_id (x := (w : Int) - 1 - i) (by omega) (by omega), show (w : Int) - 1 - i = ((w - 1 - i : Nat) : Int) by omega]; rfl) (fun y k s => by rw [p_umbraref42_Flip_L2, df (show ¬ (w : Int) < (w : Int) by omega), cond_false])
      (fun k s i hi => by rw [p_umbraref42_Flip_L1, dt (show (i : Int) < (h : Int) by omega), cond_true]) (fun k s => by rw [p_umbraref42_Flip_L1, df (show ¬ (h : Int) < (h : Int) by omega), cond_false])
    rw [e]; rfl
  · rw [show (((2 : Nat) : Int) == 3) = false from rfl, cond_false, Option.bind_some]
    have e := nest (N := N) hN ok.w1 ok.w2 ok.h2 ok.d1 ok.d2 (flV p w h d 2) (fun x y => p_umbraref42_Flip_L3 N p ((x : Int), ((h - 1 - y : Nat) : Int))) (fun y => p_umbraref42_Flip_L2 N ((w : Int), (h : Int)) ((2 : Nat) : Int) p (y : Int)) (p_umbraref42_Flip_L1 N ((w : Int), (h : Int)) ((2 : Nat) : Int) p)
      (fun x y hx hy => F3 _ _ _ (fun i hi => rfl)) (fun x y k s => E3 _ k s)
      (fun y hy k s i hi => by
        rw [p_umbraref42_Flip_L2, dt (show (i : Int) < (w : Int) by omega), cond_true, show (((2 : Nat) : Int) == 2) = true from rfl, cond_true, letO_e, ok.H, I64_id (x := (h : Int) - 1) (by omega) (by omega), I64_id (x := (h : Int) - 1 - y) (by omega) (by omega), show (h : Int) - 1 - y = ((h - 1 - y : Nat) : Int) by omega]; rfl) (fun y k s => by rw [p_umbraref42_Flip_L2, df (show ¬ (w : Int) < (w : Int) by omega), cond_false])
      (fun k s i hi => by rw [p_umbraref42_Flip_L1, dt (show (i : Int) < (h : Int) by omega), cond_true]) (fun k s => by rw [p_umbraref42_Flip_L1, df (show ¬ (h : Int) < (h : Int) by omega), cond_false])
    rw [e]; rfl
  · rw [show (((3 : Nat) : Int) == 3) = true from rfl, cond_true, Option.bind_some]
    have e := nest (N := N) hN ok.h1 ok.h2 ok.w2 ok.d1 ok.d2 (flV p w h d 3) (fun x y => p_umbraref42_Flip_L3 N p ((y : Int), (x : Int))) (fun y => p_umbraref42_Flip_L2 N ((h : Int), (w : Int)) ((3 : Nat) : Int) p (y : Int)) (p_umbraref42_Flip_L1 N ((h : Int), (w : Int)) ((3 : Nat) : Int) p)
      (fun x y hx hy => F3 _ _ _ (fun i hi => rfl)) (fun x y k s => E3 _ k s)
      (fun y hy k s i hi => by rw [p_umbraref42_Flip_L2, dt (show (i : Int) < (h : Int) by omega), cond_true]; rfl) (fun y k s => by rw [p_umbraref42_Flip_L2, df (show ¬ (h : Int) < (h : Int) by omega), cond_false])
      (fun k s i hi => by rw [p_umbraref42_Flip_L1, dt (show (i : Int) < (w : Int) by omega), cond_true]) (fun k s => by rw [p_umbraref42_Flip_L1, df (show ¬ (w : Int) < (w : Int) by omega), cond_false])
    rw [e]; rfl
theorem flP_len {p : S_api_Plane} {w h d : Nat} (ok : PlaneOK p w h d) (κ : Nat) : (flP p w h d κ).gData.length ≤ 16384 := by
  unfold flP
  split
  · exact (eachV_len _ _ _ _).symm ▸ dim_bd ok.h2 ok.w2 ok.d2
  · exact (eachV_len _ _ _ _).symm ▸ dim_bd ok.w2 ok.h2 ok.d2
end Go.UK
