/- A part of the proof: what the functions of the program compute. -/
import Derived.Test.YtcaadpceoajapaaZ4
namespace Go.UK
open Go Go.Proofs
set_option maxRecDepth 20000
set_option maxHeartbeats 2000000
set_option linter.all false
/-! what 'each' makes, whatever the number is -/
theorem eachLoop {N w h d : Nat} (hN : 16385 < N) (hw : 1 ≤ w) (hw2 : w ≤ 64) (hh : 1 ≤ h) (hh2 : h ≤ 64) (hd : 1 ≤ d) (hd2 : d ≤ 4) (num : Nat → Nat → Nat → Int) (numF : Int → Int → Int → Option Int)
    (hnum : ∀ x y k : Nat, x < w → y < h → k < d → numF (x : Int) (y : Int) (k : Int) = some (num x y k)) (L : Nat → List Int → Int → Option (List Int))
    (hL : ∀ k s i, L (k + 1) s i = cond (decide (i < ((w * h * d : Nat) : Int))) (
      Option.bind (quoO .i64 i (d : Int)) fun x5 => Option.bind (remO .i64 x5 (w : Int)) fun x6 => Option.bind (quoO .i64 i (d : Int)) fun x7 => Option.bind (quoO .i64 x7 (w : Int)) fun x8 => Option.bind (remO .i64 i (d : Int)) fun x9 =>
      Option.bind (numF x6 x8 x9) fun r10 => Option.bind (appO 8 s [r10]) fun a11 => L k a11 (I64 (i + 1))) (some s)) : L N [] 0 = some (eachV w h d num) := by
  have hbd := dim_bd hw2 hh2 hd2
  have := rowLoop (n := w * h * d) hbd (fun i => num (i / d % w) (i / d / w) (i % d)) L [] (by simp) (fun k s i hi hs => by
    have hy : i / d / w < h := by rw [Nat.div_div_eq_div_mul, Nat.div_lt_iff_lt_mul (Nat.mul_pos (by omega) (by omega))]; rw [show h * (d * w) = w * h * d by rw [Nat.mul_comm d w, ← Nat.mul_assoc, Nat.mul_comm h w]]; exact hi
    have hx : i / d % w < w := Nat.mod_lt _ (by omega)
    have hk : i % d < d := Nat.mod_lt _ (by omega)
    rw [hL, dt (show (i : Int) < ((w * h * d : Nat) : Int) by omega), cond_true]
    rw [quoO_nat (by omega) (by omega), Option.bind_some, remO_nat (by omega), Option.bind_some, Option.bind_some, quoO_nat (by omega) (by have := Nat.div_le_self i d; omega), Option.bind_some, remO_nat (by omega), Option.bind_some]
    rw [hnum _ _ _ hx hy hk, Option.bind_some, appO8 hs (by simp), Option.bind_some]) (fun k s => by rw [hL, df (by omega), cond_false]) (N := N) (by omega)
  exact this
/-! numbers of what was made -/
theorem eachV_at {w h d : Nat} (f : Nat → Nat → Nat → Int) {x y k : Nat} (hx : x < w) (hy : y < h) (hk : k < d) : (eachV w h d f).getD (pix w d x y k) 0 = f x y k := by
  have hlt := pix_lt hx hy hk
  unfold eachV
  rw [List.getD_eq_getElem?_getD, List.getElem?_map, List.getElem?_range hlt]
  have hd : 0 < d := by omega
  have e0 : pix w d x y k / d = y * w + x := by
    unfold pix
    rw [Nat.mul_comm _ d, Nat.mul_add_div hd, Nat.div_eq_of_lt hk, Nat.add_zero]
  have e1 : (y * w + x) % w = x := by rw [Nat.mul_comm y w, Nat.mul_add_mod, Nat.mod_eq_of_lt hx]
  have e2 : (y * w + x) / w = y := by rw [Nat.mul_comm y w, Nat.mul_add_div (by omega), Nat.div_eq_of_lt hx, Nat.add_zero]
  have e3 : pix w d x y k % d = k := by
    unfold pix
    rw [Nat.mul_comm _ d, Nat.mul_add_mod, Nat.mod_eq_of_lt hk]
  simp only [Option.map_some, Option.getD_some, e0, e1, e2, e3]
theorem eachV_id {p : S_api_Plane} {w h d : Nat} (ok : PlaneOK p w h d) : eachV w h d (fun x y k => atV p w h d x y k) = p.gData := by
  have hd : 0 < d := ok.d1
  have hw : 0 < w := ok.w1
  unfold eachV
  apply List.ext_getElem?
  intro i
  rw [List.getElem?_map]
  by_cases hi : i < w * h * d
  · rw [List.getElem?_range hi]
    have hy : i / d / w < h := by rw [Nat.div_div_eq_div_mul, Nat.div_lt_iff_lt_mul (Nat.mul_pos (by omega) (by omega))]; rw [show h * (d * w) = w * h * d by rw [Nat.mul_comm d w, ← Nat.mul_assoc, Nat.mul_comm h w]]; exact hi
    have hx : i / d % w < w := Nat.mod_lt _ (by omega)
    have hp : pix w d (i / d % w) (i / d / w) (i % d) = i := by
      unfold pix
      rw [show i / d / w * w + i / d % w = i / d by rw [Nat.mul_comm]; exact Nat.div_add_mod _ _, Nat.mul_comm]
      exact Nat.div_add_mod _ _
    simp only [Option.map_some, atV, clp_id hx, clp_id hy, hp]
    rw [List.getD_eq_getElem?_getD, List.getElem?_eq_getElem (by rw [ok.len]; exact hi)]
    rfl
  · rw [List.getElem?_eq_none (by simp; omega), List.getElem?_eq_none (by rw [ok.len]; omega)]
    rfl
/-- a plane of these numbers -/
def mkP (p : S_api_Plane) (w h d : Nat) (f : Nat → Nat → Nat → Int) : S_api_Plane := ⟨w, h, d, p.gName, eachV w h d f⟩
theorem mkP_ok {p : S_api_Plane} {w h d : Nat} {f : Nat → Nat → Nat → Int} (hw : 1 ≤ w) (hw2 : w ≤ 64) (hh : 1 ≤ h) (hh2 : h ≤ 64) (hd : 1 ≤ d) (hd2 : d ≤ 4) (hf : ∀ x y k, x < w → y < h → k < d → 0 ≤ f x y k ∧ f x y k ≤ 65535) : PlaneOK (mkP p w h d f) w h d := by
  refine ⟨rfl, rfl, rfl, hw, hw2, hh, hh2, hd, hd2, eachV_len _ _ _ _, fun v hv => ?_⟩
  unfold mkP eachV at hv
  dsimp only at hv
  obtain ⟨i, hi, rfl⟩ := List.mem_map.1 hv
  have hi := List.mem_range.1 hi
  refine hf _ _ _ (Nat.mod_lt _ (by omega)) ?_ (Nat.mod_lt _ (by omega))
  rw [Nat.div_div_eq_div_mul, Nat.div_lt_iff_lt_mul (Nat.mul_pos (by omega) (by omega))]
  rw [show h * (d * w) = w * h * d by rw [Nat.mul_comm d w, ← Nat.mul_assoc, Nat.mul_comm h w]]; exact hi
theorem mkP_at {p : S_api_Plane} {w h d : Nat} {f : Nat → Nat → Nat → Int} {x y k : Nat} (hx : x < w) (hy : y < h) (hk : k < d) : atV (mkP p w h d f) w h d x y k = f x y k := by
  unfold atV
  rw [clp_id hx, clp_id hy]
  exact eachV_at f hx hy hk
theorem mkP_self {p : S_api_Plane} {w h d : Nat} (ok : PlaneOK p w h d) : mkP p w h d (fun x y k => atV p w h d x y k) = p := by
  unfold mkP
  rw [eachV_id ok, ← ok.W, ← ok.H, ← ok.D]
theorem mkP_congr {p : S_api_Plane} {w h d : Nat} {f g : Nat → Nat → Nat → Int} (hd : 1 ≤ d) (hw : 1 ≤ w) (he : ∀ x y k, x < w → y < h → k < d → f x y k = g x y k) : mkP p w h d f = mkP p w h d g := by
  unfold mkP eachV
  congr 1
  apply List.map_congr_left
  intro i hi
  have hi := List.mem_range.1 hi
  refine he _ _ _ (Nat.mod_lt _ (by omega)) ?_ (Nat.mod_lt _ (by omega))
  rw [Nat.div_div_eq_div_mul, Nat.div_lt_iff_lt_mul (Nat.mul_pos (by omega) (by omega))]
  rw [show h * (d * w) = w * h * d by rw [Nat.mul_comm d w, ← Nat.mul_assoc, Nat.mul_comm h w]]; exact hi
theorem chk_ok {p : S_api_Plane} {w h d : Nat} (ok : PlaneOK p w h d) (hn : badName p.gName = false) : chk p = 0 := by
  have h1 : badDim p = false := by
    unfold badDim
    have := ok.w1; have := ok.w2; have := ok.h1; have := ok.h2; have := ok.d1; have := ok.d2
    rw [ok.W, ok.H, ok.D, dt (show (1 : Int) ≤ w by omega), dt (show (w : Int) ≤ 64 by omega), dt (show (1 : Int) ≤ h by omega), dt (show (h : Int) ≤ 64 by omega), dt (show (1 : Int) ≤ d by omega), dt (show (d : Int) ≤ 4 by omega)]
    rfl
  have h2 : badLen p = false := by
    unfold badLen
    rw [ok.W, ok.H, ok.D, dim_e ok.w2 ok.h2 ok.d2, ok.len]
    simp
  have h3 : p.gData.any badV = false := by
    rw [List.any_eq_false]
    intro x hx
    obtain ⟨a, b⟩ := ok.val x hx
    unfold badV
    rw [dt a, dt b]
    simp
  unfold chk
  rw [h1, hn, h2, h3]
  rfl
theorem name_ok {p : S_api_Plane} (h : chk p = 0) : badName p.gName = false := by
  unfold chk at h
  cases hb : badDim p with
  | true => rw [hb] at h; cases h
  | false =>
    rw [hb, cond_false] at h
    cases hn : badName p.gName with
    | true => rw [hn] at h; cases h
    | false => rfl
theorem small_ok {p : S_api_Plane} {w h d : Nat} (ok : PlaneOK p w h d) (hn : badName p.gName = false) {N : Nat} (hN : 16385 < N) : Small42 p N := by
  have h1 : p.gData.length ≤ 16384 := by rw [ok.len]; exact dim_bd ok.w2 ok.h2 ok.d2
  have h2 : p.gName.size ≤ 16 := by
    unfold badName at hn
    simp only [Bool.or_eq_false_iff, Bool.not_eq_false', Bool.and_eq_true, decide_eq_true_eq] at hn
    omega
  exact ⟨by omega, by omega, by omega, by omega⟩
/-! Flip, Double, Half -/
def none42 (e : Int) : S_api_Plane × Int := (S_api_Plane.mk 0 0 0 (ByteArray.mk #[]) [], e)
theorem flip0 (N : Nat) (hN : 16385 < N) {p : S_api_Plane} {w h d : Nat} (ok : PlaneOK p w h d) (hs : Small42 p N) (hc : chk p = 0) : p_filter_Flip N p 0 = some (p, 0) := by
  unfold p_filter_Flip p_filter_each_Flip_1
  rw [pamCheck N p hs, hc, Option.bind_some]
  have e := eachLoop hN ok.w1 ok.w2 ok.h1 ok.h2 ok.d1 ok.d2 (fun x y k => atV p w h d x y k) (fun x y k => p_filter_Flip_1_dddi N x y k p) (fun x y k hx hy hk => by
    unfold p_filter_Flip_1_dddi; rw [filterAt N ok _ _ hk]; rfl) (p_filter_each_Flip_1_L1 N ((w * h * d : Nat) : Int) p (w : Int) p) (fun k s i => by rw [p_filter_each_Flip_1_L1, ok.D])
  rw [letO_e, ok.W, ok.H, ok.D, dim_e ok.w2 ok.h2 ok.d2, e, eachV_id ok]
  show some ((S_api_Plane.mk (w : Int) (h : Int) (d : Int) p.gName p.gData, 0) : S_api_Plane × Int) = some (p, 0)
  rw [← ok.W, ← ok.H, ← ok.D]
theorem doubleP (N : Nat) (hN : 16385 < N) {p : S_api_Plane} {w h d : Nat} (ok : PlaneOK p w h d) (hs : Small42 p N) (hc : chk p = 0) :
    p_filter_Double N p = some (if w ≤ 32 ∧ h ≤ 32 then (mkP p (2 * w) (2 * h) d (fun x y k => atV p w h d ((x / 2 : Nat) : Int) ((y / 2 : Nat) : Int) k), 0) else none42 2) := by
  unfold p_filter_Double p_filter_each_Double_1
  rw [pamCheck N p hs, hc, Option.bind_some, letO_e, ok.W, ok.H]
  rw [show ((0 : Int) != 0) = false from rfl, cond_false]
  have hm : decide (imax (w : Int) (h : Int) > 32) = !(decide (w ≤ 32 ∧ h ≤ 32)) := by
    unfold imax
    by_cases hh : w ≤ 32 ∧ h ≤ 32
    · rw [dt hh]; simp; split <;> omega
    · rw [df hh]; simp; split <;> omega
  rw [hm]
  by_cases hh : w ≤ 32 ∧ h ≤ 32
  · rw [dt hh, if_pos hh]
    have ha := ok.w1; have hb := ok.h1
    have e := eachLoop (w := 2 * w) (h := 2 * h) hN (by omega) (by omega) (by omega) (by omega) ok.d1 ok.d2 (fun x y k => atV p w h d ((x / 2 : Nat) : Int) ((y / 2 : Nat) : Int) k) (fun x y k => p_filter_Double_1_dddi N x y k p) (fun x y k hx hy hk => by
      unfold p_filter_Double_1_dddi
      have e1 : ∀ z : Nat, z < 1000 → I64 ((z : Int).tdiv 2) = ((z / 2 : Nat) : Int) := fun z hz => by rw [show (z : Int).tdiv 2 = ((z / 2 : Nat) : Int) from rfl, I64_id (by omega) (by omega)]
      rw [e1 x (by omega), e1 y (by omega), filterAt N ok _ _ hk]; rfl) (p_filter_each_Double_1_L1 N ((2 * w * (2 * h) * d : Nat) : Int) p ((2 * w : Nat) : Int) p) (fun k s i => by rw [p_filter_each_Double_1_L1, ok.D])
    have e2 : ∀ z : Nat, z ≤ 64 → I64 (2 * (z : Int)) = ((2 * z : Nat) : Int) := fun z hz => by rw [I64_id (by omega) (by omega)]; omega
    rw [e2 w ok.w2, e2 h ok.h2, letO_e, ok.D, dim_e (by omega) (by omega) ok.d2, e]
    rfl
  · rw [df hh, if_neg hh]
    rfl
def halfV (p : S_api_Plane) (w h d : Nat) (x y k : Nat) : Int := (atV p w h d ((2 * x : Nat) : Int) ((2 * y : Nat) : Int) k + atV p w h d ((2 * x + 1 : Nat) : Int) ((2 * y : Nat) : Int) k + atV p w h d ((2 * x : Nat) : Int) ((2 * y + 1 : Nat) : Int) k + atV p w h d ((2 * x + 1 : Nat) : Int) ((2 * y + 1 : Nat) : Int) k + 2) / 4
theorem halfNum (N : Nat) {p : S_api_Plane} {w h d : Nat} (ok : PlaneOK p w h d) {x y k : Nat} (hx : x < 64) (hy : y < 64) (hk : k < d) : p_filter_Half_1_dddi N (x : Int) (y : Int) (k : Int) p = some (halfV p w h d x y k) := by
  unfold p_filter_Half_1_dddi
  simp only [letO_e]
  have e2 : ∀ z : Nat, z < 64 → I64 (2 * (z : Int)) = ((2 * z : Nat) : Int) := fun z hz => by rw [I64_id (by omega) (by omega)]; omega
  have e3 : ∀ z : Nat, z < 64 → I64 (((2 * z : Nat) : Int) + 1) = ((2 * z + 1 : Nat) : Int) := fun z hz => by rw [I64_id (by omega) (by omega)]; omega
  rw [e2 x hx, e2 y hy, e3 x hx, e3 y hy, filterAt N ok _ _ hk, filterAt N ok _ _ hk, filterAt N ok _ _ hk, filterAt N ok _ _ hk]
  simp only [Option.bind_some]
  unfold halfV
  obtain ⟨a1, a2⟩ := atV_rng ok ((2 * x : Nat) : Int) ((2 * y : Nat) : Int) hk
  obtain ⟨b1, b2⟩ := atV_rng ok ((2 * x + 1 : Nat) : Int) ((2 * y : Nat) : Int) hk
  obtain ⟨c1, c2⟩ := atV_rng ok ((2 * x : Nat) : Int) ((2 * y + 1 : Nat) : Int) hk
  obtain ⟨d1, d2⟩ := atV_rng ok ((2 * x + 1 : Nat) : Int) ((2 * y + 1 : Nat) : Int) hk
  generalize atV p w h d ((2 * x : Nat) : Int) ((2 * y : Nat) : Int) k = a at *
  generalize atV p w h d ((2 * x + 1 : Nat) : Int) ((2 * y : Nat) : Int) k = b at *
  generalize atV p w h d ((2 * x : Nat) : Int) ((2 * y + 1 : Nat) : Int) k = c at *
  generalize atV p w h d ((2 * x + 1 : Nat) : Int) ((2 * y + 1 : Nat) : Int) k = e at *
  rw [I64_id (x := a + b) (by omega) (by omega), I64_id (x := a + b + c) (by omega) (by omega), I64_id (x := a + b + c + e) (by omega) (by omega), I64_id (x := a + b + c + e + 2) (by omega) (by omega), Int.tdiv_eq_ediv_of_nonneg (by omega), I64_id (by omega) (by omega)]
theorem halfP (N : Nat) (hN : 16385 < N) {p : S_api_Plane} {w h d : Nat} (ok : PlaneOK p (2 * w) (2 * h) d) (hw : 1 ≤ w) (hh : 1 ≤ h) (hs : Small42 p N) (hc : chk p = 0) :
    p_filter_Half N p = some (mkP p w h d (halfV p (2 * w) (2 * h) d), 0) := by
  unfold p_filter_Half p_filter_each_Half_1
  have a1 := ok.w2; have a2 := ok.h2
  rw [pamCheck N p hs, hc, Option.bind_some, letO_e, letO_e, ok.W, ok.H]
  have e0 : ∀ z : Nat, (((2 * z : Nat) : Int).tmod 2 == 1) = false := fun z => by rw [Int.tmod_eq_emod_of_nonneg (by omega)]; simp
  have e1 : ∀ z : Nat, z ≤ 64 → I64 (((2 * z : Nat) : Int).tdiv 2) = (z : Int) := fun z hz => by rw [show ((2 * z : Nat) : Int).tdiv 2 = ((2 * z / 2 : Nat) : Int) from rfl, I64_id (by omega) (by omega)]; omega
  rw [show ((0 : Int) != 0) = false from rfl, cond_false, e0, e0, e1 w (by omega), e1 h (by omega), letO_e, ok.D, dim_e (by omega) (by omega) ok.d2]
  have e := eachLoop (w := w) (h := h) hN hw (by omega) hh (by omega) ok.d1 ok.d2 (halfV p (2 * w) (2 * h) d) (fun x y k => p_filter_Half_1_dddi N x y k p) (fun x y k hx hy hk => halfNum N ok (by omega) (by omega) hk) (p_filter_each_Half_1_L1 N ((w * h * d : Nat) : Int) p (w : Int) p) (fun k s i => by rw [p_filter_each_Half_1_L1, ok.D])
  rw [e]
  rfl
end Go.UK
