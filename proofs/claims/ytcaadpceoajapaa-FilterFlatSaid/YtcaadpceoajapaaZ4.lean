/- A part of the proof: what the functions of the program compute. -/
import Derived.Test.YtcaadpceoajapaaZ3
import Derived.Test.YtcaadpceoajapaaQ3
namespace Go.UK
open Go Go.Proofs
set_option maxRecDepth 20000
set_option maxHeartbeats 2000000
set_option linter.all false
/-! weighing -/
def nb (p : S_api_Plane) (w h d x y k i : Nat) : Int := atV p w h d ((x : Int) + ((i % 3 : Nat) : Int) - 1) ((y : Int) + ((i / 3 : Nat) : Int) - 1) k
def wStep (f : Nat → Int) (wt : Vector Int 9) (s : Int) (i : Nat) : Int := I64 (s + I64 (f i * wt.toList.getD i 0))
def convV (p : S_api_Plane) (w h d : Nat) (wt : Vector Int 9) (all : Int) (x y k : Nat) : Int := I64 (((List.range 9).foldl (wStep (nb p w h d x y k) wt) (I64 (all.tdiv 2))).tdiv all)
theorem idx_getD {α : Type} {l : List α} {i : Nat} (h : i < l.length) (z : α) : idx l (i : Int) = some (l.getD i z) := by
  rw [idx_at h, List.getD_eq_getElem?_getD, List.getElem?_eq_getElem h]; rfl
theorem filterNine (N : Nat) (hN : 9 < N) {p : S_api_Plane} {w h d : Nat} (ok : PlaneOK p w h d) {x y k : Nat} (hx : x < 64) (hy : y < 64) (hk : k < d) :
    ∃ v, p_filter_nine N p (x : Int) (y : Int) (k : Int) = some v ∧ v.toList = (List.range 9).map (nb p w h d x y k) := by
  obtain ⟨v, h1, h2⟩ := loopVec0 (m := 9) (by decide) (nb p w h d x y k) (p_filter_nine_L1 N (x : Int) (y : Int) p (k : Int)) (fun j v i hi => by
    rw [p_filter_nine_L1, dt (show (i : Int) < 9 by omega), cond_true, letO_e, letO_e]
    have e1 : (i : Int).tmod 3 = ((i % 3 : Nat) : Int) := rfl
    have e2 : I64 ((i : Int).tdiv 3) = ((i / 3 : Nat) : Int) := by
      rw [show (i : Int).tdiv 3 = ((i / 3 : Nat) : Int) from rfl, I64_id (by omega) (by omega)]
    rw [e1, e2, I64_id (x := (x : Int) + ((i % 3 : Nat) : Int)) (by omega) (by omega), I64_id (x := (y : Int) + ((i / 3 : Nat) : Int)) (by omega) (by omega), I64_id (x := (x : Int) + ((i % 3 : Nat) : Int) - 1) (by omega) (by omega), I64_id (x := (y : Int) + ((i / 3 : Nat) : Int) - 1) (by omega) (by omega)]
    rw [filterAt N ok _ _ hk, Option.bind_some, inRO_ok (by omega) (by omega), Option.bind_some, Int.toNat_natCast, vec_get? v hi, Option.bind_some]
    rfl) (fun j v => by rw [p_filter_nine_L1, df (by omega), cond_false]) hN (Vector.replicate 9 0)
  refine ⟨v, ?_, h2⟩
  unfold p_filter_nine
  rw [h1]; rfl
theorem filterConv (N : Nat) (hN : 9 < N) {p : S_api_Plane} {w h d : Nat} (ok : PlaneOK p w h d) (wt : Vector Int 9) {all : Int} (h0 : all ≠ 0) {x y k : Nat} (hx : x < 64) (hy : y < 64) (hk : k < d) :
    p_filter_Convolve_1_dddrii N (x : Int) (y : Int) (k : Int) p wt all = some (convV p w h d wt all x y k) := by
  unfold p_filter_Convolve_1_dddrii
  obtain ⟨v, h1, h2⟩ := filterNine N hN ok hx hy hk
  rw [h1, Option.bind_some, loopFold0 9 (by decide) (wStep (nb p w h d x y k) wt) (p_filter_Convolve_1_dddrii_L1 N v wt) ?_ ?_ hN, Option.bind_some, quoO_nz h0]
  · rfl
  · intro j s i hi
    rw [p_filter_Convolve_1_dddrii_L1, dt (show (i : Int) < 9 by omega), cond_true, h2, idx_at (by simp; omega), Option.bind_some, idx_getD (l := wt.toList) (by simp; omega) 0, Option.bind_some, letO_e]
    simp only [List.getElem_map, List.getElem_range]
    rfl
  · intro j s
    rw [p_filter_Convolve_1_dddrii_L1, df (by omega), cond_false]
theorem refConv6 (N : Nat) (hN : 9 < N) {p : S_api_Plane} {w h d : Nat} (ok : PlaneOK p w h d) (wt : Vector Int 9) {x y k b : Nat} (hx : x < 64) (hy : y < 64) (hk : k < d) (hb : b < 3) (s : Int) :
    p_umbraref42_Convolve_L6 N (x : Int) (y : Int) (b : Int) p (k : Int) wt N s 0 = some ((List.range 3).foldl (fun s a => wStep (nb p w h d x y k) wt s (3 * b + a)) s) := by
  refine loopFold0 3 (by decide) (fun s a => wStep (nb p w h d x y k) wt s (3 * b + a)) (p_umbraref42_Convolve_L6 N (x : Int) (y : Int) (b : Int) p (k : Int) wt) ?_ ?_ (by omega) s
  · intro j s a ha
    rw [p_umbraref42_Convolve_L6, dt (show (a : Int) < 3 by omega), cond_true, letO_e, letO_e]
    rw [I64_id (x := (x : Int) + (a : Int)) (by omega) (by omega), I64_id (x := (x : Int) + (a : Int) - 1) (by omega) (by omega), I64_id (x := (y : Int) + (b : Int)) (by omega) (by omega), I64_id (x := (y : Int) + (b : Int) - 1) (by omega) (by omega)]
    rw [refAt N ok _ _ hk, Option.bind_some, letO_e, I64_id (x := 3 * (b : Int)) (by omega) (by omega), I64_id (x := 3 * (b : Int) + a) (by omega) (by omega)]
    rw [show 3 * (b : Int) + (a : Int) = ((3 * b + a : Nat) : Int) by omega, idx_getD (l := wt.toList) (by simp; omega) 0, Option.bind_some, letO_e]
    unfold wStep nb
    rw [show (3 * b + a) % 3 = a by omega, show (3 * b + a) / 3 = b by omega]
  · intro j s
    rw [p_umbraref42_Convolve_L6, df (by omega), cond_false]
theorem refConv5 (N : Nat) (hN : 9 < N) {p : S_api_Plane} {w h d : Nat} (ok : PlaneOK p w h d) (wt : Vector Int 9) {x y k : Nat} (hx : x < 64) (hy : y < 64) (hk : k < d) (s : Int) :
    p_umbraref42_Convolve_L5 N (x : Int) (y : Int) p (k : Int) wt N s 0 = some ((List.range 9).foldl (wStep (nb p w h d x y k) wt) s) := by
  have := loopFold0 3 (by decide) (fun s b => (List.range 3).foldl (fun s a => wStep (nb p w h d x y k) wt s (3 * b + a)) s) (p_umbraref42_Convolve_L5 N (x : Int) (y : Int) p (k : Int) wt) (fun j s b hb => by
    rw [p_umbraref42_Convolve_L5, dt (show (b : Int) < 3 by omega), cond_true, refConv6 N hN ok wt hx hy hk hb, Option.bind_some]) (fun j s => by rw [p_umbraref42_Convolve_L5, df (by omega), cond_false]) (show 3 < N by omega) s
  exact this
/-! all numbers -/
theorem filterEach (N : Nat) (hN : 16385 < N) {p : S_api_Plane} {w h d : Nat} (ok : PlaneOK p w h d) (wt : Vector Int 9) {all : Int} (h0 : all ≠ 0) :
    p_filter_each_Convolve_1_rii N p (w : Int) (h : Int) p wt all = some ⟨w, h, p.gDeep, p.gName, eachV w h d (convV p w h d wt all)⟩ := by
  unfold p_filter_each_Convolve_1_rii
  have hd := ok.d1; have hw := ok.w1; have hh := ok.h1
  have hbd := dim_bd ok.w2 ok.h2 ok.d2
  rw [letO_e, ok.D, dim_e ok.w2 ok.h2 ok.d2]
  rw [rowLoop (n := w * h * d) hbd (fun i => convV p w h d wt all (i / d % w) (i / d / w) (i % d)) (p_filter_each_Convolve_1_rii_L1 N ((w * h * d : Nat) : Int) p (w : Int) p wt all) [] (by simp) ?_ ?_ (by omega), Option.bind_some]
  · rfl
  · intro k s i hi hs
    have hy : i / d / w < h := by rw [Nat.div_div_eq_div_mul, Nat.div_lt_iff_lt_mul (Nat.mul_pos (by omega) (by omega))]; rw [show h * (d * w) = w * h * d by rw [Nat.mul_comm d w, ← Nat.mul_assoc, Nat.mul_comm h w]]; exact hi
    have hx : i / d % w < w := Nat.mod_lt _ (by omega)
    have hk : i % d < d := Nat.mod_lt _ (by omega)
    rw [p_filter_each_Convolve_1_rii_L1, dt (show (i : Int) < ((w * h * d : Nat) : Int) by omega), cond_true, ok.D]
    rw [quoO_nat (by omega) (by omega), Option.bind_some, remO_nat (by omega), Option.bind_some, Option.bind_some, quoO_nat (by omega) (by have := Nat.div_le_self i d; omega), Option.bind_some, remO_nat (by omega), Option.bind_some]
    rw [filterConv N (by omega) ok wt h0 (by have := ok.w2; omega) (by have := ok.h2; omega) hk, Option.bind_some, appO8 hs (by simp), Option.bind_some]
  · intro k s
    rw [p_filter_each_Convolve_1_rii_L1, df (by omega), cond_false]
theorem refEach (N : Nat) (hN : 16385 < N) {p : S_api_Plane} {w h d : Nat} (ok : PlaneOK p w h d) (wt : Vector Int 9) {all : Int} (h0 : all ≠ 0) :
    p_umbraref42_Convolve_L2 N p wt all N [] 0 = some (eachV w h d (convV p w h d wt all)) := by
  have hd := ok.d1; have hw := ok.w1; have hh := ok.h1; have hd2 := ok.d2; have hw2 := ok.w2; have hh2 := ok.h2
  have b1 : w * d ≤ 64 * 4 := Nat.mul_le_mul hw2 hd2
  rw [← eachV_flat (h := h) hw hd (convV p w h d wt all)]
  have L4 : ∀ (x y : Nat), x < w → y < h → ∀ s : List Int, s.length ≤ 100000 → p_umbraref42_Convolve_L4 N p (x : Int) (y : Int) wt all N s 0 = some (s ++ (List.range d).map fun k => convV p w h d wt all x y k) := by
    intro x y hx hy s hs
    refine rowLoop (n := d) (by omega) (fun k => convV p w h d wt all x y k) (p_umbraref42_Convolve_L4 N p (x : Int) (y : Int) wt all) s hs ?_ ?_ (by omega)
    · intro k s i hi hs
      rw [p_umbraref42_Convolve_L4, letO_e, ok.D, dt (show (i : Int) < (d : Int) by omega), cond_true, refConv5 N (by omega) ok wt (by omega) (by omega) hi, Option.bind_some, quoO_nz h0, Option.bind_some, appO8 hs (by simp), Option.bind_some]
      rfl
    · intro k s
      rw [p_umbraref42_Convolve_L4, letO_e, ok.D, df (by omega), cond_false]
  have L3 : ∀ (y : Nat), y < h → ∀ s : List Int, s.length ≤ 50000 → p_umbraref42_Convolve_L3 N p (y : Int) wt all N s 0 = some (s ++ (List.range w).flatMap fun x => (List.range d).map fun k => convV p w h d wt all x y k) := by
    intro y hy s hs
    refine rowsLoop (n := w) (m := d) hw2 (by omega) (fun x => (List.range d).map fun k => convV p w h d wt all x y k) (by simp) (p_umbraref42_Convolve_L3 N p (y : Int) wt all) s hs ?_ ?_ (by omega)
    · intro k s i hi hs
      rw [p_umbraref42_Convolve_L3, ok.W, dt (show (i : Int) < (w : Int) by omega), cond_true, L4 i y hi hy s hs, Option.bind_some]
    · intro k s
      rw [p_umbraref42_Convolve_L3, ok.W, df (by omega), cond_false]
  have := loopFlat0 h (by omega) (fun y => (List.range w).flatMap fun x => (List.range d).map fun k => convV p w h d wt all x y k) (fun s i => s.length = i * (w * d)) (p_umbraref42_Convolve_L2 N p wt all) (fun s i hi hs => by
      rw [List.length_append, hs, flat_len (m := d) _ (by simp), Nat.succ_mul]) (fun k s i hi hs => by
      have hb : i * (w * d) ≤ 64 * 256 := Nat.mul_le_mul (by omega) b1
      rw [p_umbraref42_Convolve_L2, ok.H, dt (show (i : Int) < (h : Int) by omega), cond_true, L3 i hi s (by omega), Option.bind_some]) (fun k s => by
      rw [p_umbraref42_Convolve_L2, ok.H, df (by omega), cond_false]) (N := N) (by omega) (s := []) (by simp)
  rw [this]; rfl
/-! the weights -/
theorem wtsEq (N : Nat) (wt : Vector Int 9) : ∀ (k : Nat) (s i : Int), p_filter_Convolve_L1 N wt k s i = p_umbraref42_Convolve_L1 N wt k s i
  | 0, _, _ => rfl
  | k + 1, s, i => by
    rw [p_filter_Convolve_L1, p_umbraref42_Convolve_L1]
    cases decide (i < 9) with
    | false => rfl
    | true =>
      rw [cond_true, cond_true]
      cases idx wt.toList i with
      | none => rfl
      | some e =>
        rw [Option.bind_some, letO_e, Option.bind_some, Option.bind_some]
        cases decide (e < 0) with
        | true => rfl
        | false =>
          rw [cond_false, cond_false, Option.bind_some, Option.bind_some, wtsEq N wt k]
theorem wts_some (N : Nat) (wt : Vector Int 9) : ∀ (k i : Nat) (s : Int), i ≤ 9 → 9 - i < k → ∃ o, p_filter_Convolve_L1 N wt k s (i : Int) = some o ∧ ∀ r, o = Sum.inr r → r = (S_api_Plane.mk 0 0 0 (ByteArray.mk #[]) [], 2)
  | 0, i, _, _, h => by omega
  | k + 1, i, s, hi, hk => by
    rw [p_filter_Convolve_L1]
    by_cases h : i < 9
    · rw [dt (show (i : Int) < 9 by omega), cond_true, idx_at (by simp; omega), Option.bind_some, letO_e]
      cases cond (decide (wt.toList[i]'(by simp; omega) < 0)) true (decide (wt.toList[i]'(by simp; omega) > 4096)) with
      | true => exact ⟨_, rfl, fun r e => by cases e; rfl⟩
      | false => rw [cond_false, I64_s (i := i) (by omega)]; exact wts_some N wt k (i + 1) _ (by omega) (by omega)
    · rw [df (by omega), cond_false]
      exact ⟨_, rfl, fun r e => by cases e⟩
theorem convEq (N : Nat) (hN : 16385 < N) {p : S_api_Plane} (hs : Small42 p N) (wt : Vector Int 9) : ∃ r, p_filter_Convolve N p wt = some r ∧ p_umbraref42_Convolve N p wt = some r ∧ r.1.gData.length ≤ 16384 := by
  unfold p_filter_Convolve p_umbraref42_Convolve
  rw [pamCheck N p hs, refCheck N p hs, Option.bind_some, Option.bind_some]
  cases hc : (chk p != 0) with
  | true => exact ⟨_, rfl, rfl, Nat.zero_le _⟩
  | false =>
    have h0 : chk p = 0 := by simpa using hc
    obtain ⟨w, h, d, ok⟩ := planeOK_of h0
    rw [cond_false, cond_false]
    obtain ⟨o, h1, h2⟩ := wts_some N wt N 0 0 (by omega) (by omega)
    have h1' : p_filter_Convolve_L1 N wt N 0 0 = some o := h1
    rw [← wtsEq N wt N 0 0, h1', Option.bind_some, Option.bind_some]
    cases o with
    | inr r => exact ⟨r, rfl, rfl, by rw [h2 r rfl]; exact Nat.zero_le _⟩
    | inl all =>
      show ∃ r, cond (all == 0) _ _ = some r ∧ cond (all == 0) _ _ = some r ∧ _
      by_cases ha : all = 0
      · subst ha
        exact ⟨_, rfl, rfl, Nat.zero_le _⟩
      · rw [show (all == 0) = false by simpa using ha, cond_false, cond_false, ok.W, ok.H, filterEach N hN ok wt ha, refEach N hN ok wt ha, Option.bind_some, Option.bind_some]
        exact ⟨_, rfl, rfl, by rw [eachV_len]; exact dim_bd ok.w2 ok.h2 ok.d2⟩
end Go.UK
