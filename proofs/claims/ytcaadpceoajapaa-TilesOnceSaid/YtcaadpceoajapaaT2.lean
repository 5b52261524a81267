/- A part of the proof: what the functions of the program compute. -/
import Derived.Test.YtcaadpceoajapaaT1
namespace Go.UK
open Go Go.Proofs
set_option maxRecDepth 20000
set_option maxHeartbeats 1000000
set_option linter.all false
/-! ### each pixel once -/
theorem divmod {n b : Nat} (a t : Nat) (hb : b < n) : a * n + b = t ↔ (t / n = a ∧ t % n = b) := by
  constructor
  · rintro rfl
    rw [Nat.mul_comm a n]
    exact ⟨by rw [Nat.mul_add_div (by omega), Nat.div_eq_of_lt hb, Nat.add_zero], by rw [Nat.mul_add_mod, Nat.mod_eq_of_lt hb]⟩
  · rintro ⟨rfl, rfl⟩
    exact Nat.div_add_mod' t n
theorem in_tile {W s i p : Nat} (hs : 1 ≤ s) (hp : p < W) : (i * s ≤ p ∧ p < i * s + min s (W - i * s)) ↔ p / s = i := by
  constructor
  · rintro ⟨h1, h2⟩
    exact Nat.div_eq_of_lt_le h1 (by rw [Nat.add_mul]; omega)
  · rintro rfl
    have h1 := Nat.div_add_mod' p s
    have h2 := Nat.mod_lt p (show s > 0 by omega)
    generalize p / s * s = q at *
    omega
def inT (W x y w h c : Nat) : Bool := decide (x ≤ c % W ∧ c % W < x + w ∧ y ≤ c / W ∧ c / W < y + h)
def posT (W x y w c : Nat) : Nat := (c / W - y) * w + (c % W - x)
theorem at_pos {W H x y w h m c : Nat} (hx : x + w ≤ W) (hw : 1 ≤ w) (hm : m < w * h) : c = (y + m / w) * W + (x + m % w) ↔ (inT W x y w h c = true ∧ posT W x y w c = m) := by
  have hmod := Nat.mod_lt m (show w > 0 by omega)
  have hdiv : m / w < h := (Nat.div_lt_iff_lt_mul (by omega)).2 (by rw [Nat.mul_comm]; exact hm)
  have e1 := divmod (n := W) (b := x + m % w) (y + m / w) c (by omega)
  unfold inT posT
  rw [decide_eq_true_eq]
  constructor
  · intro hc
    obtain ⟨g1, g2⟩ := e1.1 hc.symm
    have hm' : m / w * w + m % w = m := Nat.div_add_mod' m w
    rw [g1, g2]
    clear hc e1 g1 g2 hm
    generalize m / w = q at *
    generalize m % w = r at *
    refine ⟨⟨by omega, by omega, by omega, by omega⟩, ?_⟩
    rw [show y + q - y = q by omega, show x + r - x = r by omega]
    exact hm'
  · rintro ⟨⟨h1, h2, h3, h4⟩, h5⟩
    obtain ⟨g1, g2⟩ := (divmod (n := w) (b := c % W - x) (c / W - y) m (by omega)).1 h5
    exact (e1.2 ⟨by omega, by omega⟩).symm
theorem pos_lt {W x y w h c : Nat} (hw : 1 ≤ w) (hc : inT W x y w h c = true) : posT W x y w c < w * h := by
  unfold inT at hc
  rw [decide_eq_true_eq] at hc
  obtain ⟨h1, h2, h3, h4⟩ := hc
  unfold posT
  have : (c / W - y) * w + w ≤ h * w := by
    rw [← Nat.succ_mul]
    exact Nat.mul_le_mul_right _ (by omega)
  rw [Nat.mul_comm w h]
  omega
theorem getD_set {l : List Int} {i j : Nat} {v : Int} (hi : i < l.length) : (l.set i v).getD j 0 = if j = i then v else l.getD j 0 := by
  rw [List.getD_eq_getElem?_getD, List.getD_eq_getElem?_getD, List.getElem?_set]
  by_cases h : i = j
  · subst h; simp [hi]
  · rw [if_neg h, if_neg (fun e => h e.symm)]
theorem v40 (a b c d : Int) : (#v[a, b, c, d] : Vector Int 4).toList[((0 : Int).toNat)]? = some a := rfl
theorem v41 (a b c d : Int) : (#v[a, b, c, d] : Vector Int 4).toList[((1 : Int).toNat)]? = some b := rfl
theorem v42 (a b c d : Int) : (#v[a, b, c, d] : Vector Int 4).toList[((2 : Int).toNat)]? = some c := rfl
theorem v43 (a b c d : Int) : (#v[a, b, c, d] : Vector Int 4).toList[((3 : Int).toNat)]? = some d := rfl
theorem get_D {l : List Int} {i : Nat} (h : i < l.length) : l[i]? = some (l.getD i 0) := by rw [List.getD_eq_getElem?_getD, List.getElem?_eq_getElem h]; rfl
theorem onceL2 (N W H x y w h : Nat) (hW : W ≤ 64) (hH : H ≤ 64) (hx : x + w ≤ W) (hy : y + h ≤ H) (hw : 1 ≤ w) (hh : 1 ≤ h) (base : Nat → Int) (hb : ∀ c, base c = 0 ∨ base c = 1) : ∀ (k m : Nat) (l : List Int), m ≤ w * h → w * h - m < k → l.length = W * H → (∀ c, c < W * H → l.getD c 0 = base c + (if inT W x y w h c = true ∧ posT W x y w c < m then 1 else 0)) →
    ∃ l', p_umbralaw40_TilesOnce_L2 N (w : Int) (h : Int) #v[(x : Int), (y : Int), (w : Int), (h : Int)] (W : Int) (H : Int) k l (m : Int) = some l' ∧ l'.length = W * H ∧ ∀ c, c < W * H → l'.getD c 0 = base c + (if inT W x y w h c = true then 1 else 0)
  | 0, _, _, _, hk, _, _ => by omega
  | k + 1, m, l, hm, hk, hl, hI => by
    have hwh : w * h ≤ 64 * 64 := Nat.mul_le_mul (by omega) (by omega)
    have hWH : W * H ≤ 64 * 64 := Nat.mul_le_mul hW hH
    have e0 : I64 ((w : Int) * (h : Int)) = ((w * h : Nat) : Int) := by
      rw [show (w : Int) * (h : Int) = ((w * h : Nat) : Int) by push_cast; rfl, I64_id (by omega) (by omega)]
    have e0' : I64 ((W : Int) * (H : Int)) = ((W * H : Nat) : Int) := by
      rw [show (W : Int) * (H : Int) = ((W * H : Nat) : Int) by push_cast; rfl, I64_id (by omega) (by omega)]
    rw [p_umbralaw40_TilesOnce_L2, letO_e, e0]
    by_cases hlt : m < w * h
    · have hmod := Nat.mod_lt m (show w > 0 by omega)
      have hdiv : m / w < h := (Nat.div_lt_iff_lt_mul (by omega)).2 (by rw [Nat.mul_comm]; exact hlt)
      have q1 : quoO .i64 (m : Int) (w : Int) = some ((m / w : Nat) : Int) := quoO_nat (by omega) (by omega)
      have q2 : remO .i64 (m : Int) (w : Int) = some ((m % w : Nat) : Int) := remO_nat (by omega)
      have hap : ∀ c, c = (y + m / w) * W + (x + m % w) ↔ (inT W x y w h c = true ∧ posT W x y w c = m) := fun c => at_pos (H := H) hx hw hlt
      generalize m / w = q at *
      generalize m % w = r at *
      have hcm : (y + q) * W + (x + r) < W * H := by
        have : (y + q) * W + W ≤ H * W := by
          rw [← Nat.succ_mul]
          exact Nat.mul_le_mul_right _ (by omega)
        rw [Nat.mul_comm W H]
        omega
      have f1 : I64 ((y : Int) + (q : Int)) = ((y + q : Nat) : Int) := by rw [I64_id (by omega) (by omega)]; push_cast; rfl
      have hyw : (y + q) * W ≤ 64 * 64 := Nat.mul_le_mul (by omega) hW
      have f2 : I64 (((y + q : Nat) : Int) * (W : Int)) = (((y + q) * W : Nat) : Int) := by
        rw [show ((y + q : Nat) : Int) * (W : Int) = (((y + q) * W : Nat) : Int) by push_cast; rfl, I64_id (by omega) (by omega)]
      have f3 : I64 ((((y + q) * W : Nat) : Int) + (x : Int)) = (((y + q) * W + x : Nat) : Int) := by rw [I64_id (by omega) (by omega)]; push_cast; rfl
      have f4 : I64 ((((y + q) * W + x : Nat) : Int) + (r : Int)) = (((y + q) * W + (x + r) : Nat) : Int) := by rw [I64_id (by omega) (by omega)]; omega
      have r1 : inRO 1 4 = some () := rfl
      have r2 : inRO 2 4 = some () := rfl
      have r0 : inRO 0 4 = some () := rfl
      generalize hc0 : (y + q) * W + (x + r) = c0 at *
      have hv := hI c0 hcm
      have hat : inT W x y w h c0 = true ∧ posT W x y w c0 = m := (hap c0).1 rfl
      rw [if_neg (by rintro ⟨_, h⟩; omega), Int.add_zero] at hv
      have hb0 := hb c0
      rw [dt (by omega), cond_true, r1, Option.bind_some, v41, Option.bind_some, r2, Option.bind_some, v42, Option.bind_some, q1, Option.bind_some, letO_e, f1, f2, r0, Option.bind_some, v40, Option.bind_some, Option.bind_some, Option.bind_some, q2, Option.bind_some, letO_e, f3, f4, e0', Int.toNat_natCast, inRO_ok (by omega) (by omega), Option.bind_some, Int.toNat_natCast, get_D (by omega), Option.bind_some, Option.bind_some, Option.bind_some, I64_s (by omega), hv, I64_id (x := base c0 + 1) (by omega) (by omega)]
      refine onceL2 N W H x y w h hW hH hx hy hw hh base hb k (m + 1) _ (by omega) (by omega) (by simp [hl]) ?_
      intro c hc
      rw [getD_set (by omega), hI c hc]
      by_cases hcc : c = c0
      · subst hcc
        rw [if_pos rfl, if_pos ⟨hat.1, by omega⟩]
      · rw [if_neg hcc]
        have hne : ¬ (inT W x y w h c = true ∧ posT W x y w c = m) := fun hh => hcc ((hap c).2 hh)
        by_cases h1 : inT W x y w h c = true
        · by_cases h2 : posT W x y w c < m
          · rw [if_pos ⟨h1, h2⟩, if_pos ⟨h1, by omega⟩]
          · rw [if_neg (fun hh => h2 hh.2), if_neg (fun hh => hne ⟨h1, by omega⟩)]
        · rw [if_neg (fun hh => h1 hh.1), if_neg (fun hh => h1 hh.1)]
    · obtain rfl : m = w * h := by omega
      refine ⟨l, by rw [df (by omega), cond_false], hl, fun c hc => ?_⟩
      rw [hI c hc]
      by_cases h1 : inT W x y w h c = true
      · rw [if_pos ⟨h1, pos_lt hw h1⟩, if_pos h1]
      · rw [if_neg (fun hh => h1 hh.1), if_neg h1]
def idxT (W s c : Nat) : Nat := (c / W) / s * ncV W s + (c % W) / s
theorem onceL1 (N W H s : Nat) (hN : 10000 < N) (hW1 : 1 ≤ W) (hW : W ≤ 64) (hH1 : 1 ≤ H) (hH : H ≤ 64) (hs1 : 1 ≤ s) (hs : s ≤ 64) : ∀ (k t : Nat) (l : List Int), t ≤ ncV H s * ncV W s → ncV H s * ncV W s - t < k → l.length = W * H → (∀ c, c < W * H → l.getD c 0 = if idxT W s c < t then 1 else 0) →
    ∃ l', p_umbralaw40_TilesOnce_L1 N (tilesV W H s, 0) (W : Int) (H : Int) (s : Int) k l (t : Int) = some (Sum.inl l') ∧ l'.length = W * H ∧ ∀ c, c < W * H → l'.getD c 0 = if idxT W s c < ncV H s * ncV W s then 1 else 0
  | 0, _, _, _, hk, _, _ => by omega
  | k + 1, t, l, ht, hk, hl, hI => by
    have hnr : ncV H s ≤ 64 := Nat.le_trans (nc_le (by omega) (by omega)) (by omega)
    have hnc : ncV W s ≤ 64 := Nat.le_trans (nc_le (by omega) (by omega)) (by omega)
    have hm : ncV H s * ncV W s ≤ 64 * 64 := Nat.mul_le_mul hnr hnc
    have hnc1 := nc_pos hs1 hW1
    rw [p_umbralaw40_TilesOnce_L1, letO_e]
    dsimp only
    rw [tilesV_len]
    by_cases h : t < ncV H s * ncV W s
    · have hi : t % ncV W s < ncV W s := Nat.mod_lt _ (by omega)
      have hj : t / ncV W s < ncV H s := (Nat.div_lt_iff_lt_mul (by omega)).2 h
      have hget : (tilesV W H s)[t]? = some (tileV W H s (t % ncV W s) (t / ncV W s)) := by unfold tilesV; rw [List.getElem?_map, List.getElem?_range h]; rfl
      have htt : ∀ c, c < W * H → (inT W (t % ncV W s * s) (t / ncV W s * s) (min s (W - t % ncV W s * s)) (min s (H - t / ncV W s * s)) c = true ↔ idxT W s c = t) := by
        intro c hc
        have hpx : c % W < W := Nat.mod_lt _ (by omega)
        have hpy : c / W < H := (Nat.div_lt_iff_lt_mul (by omega)).2 (by rw [Nat.mul_comm]; exact hc)
        have hcx : (c % W) / s < ncV W s := (ceil_lt hs1 _).1 (by have := Nat.div_mul_le_self (c % W) s; omega)
        have t1 := in_tile (i := t % ncV W s) hs1 hpx
        have t2 := in_tile (i := t / ncV W s) hs1 hpy
        have t3 := divmod (n := ncV W s) (b := (c % W) / s) ((c / W) / s) t hcx
        unfold inT idxT
        rw [decide_eq_true_eq, t3]
        constructor
        · rintro ⟨g1, g2, g3, g4⟩
          exact ⟨(t2.1 ⟨g3, g4⟩).symm, (t1.1 ⟨g1, g2⟩).symm⟩
        · rintro ⟨g1, g2⟩
          obtain ⟨k1, k2⟩ := t1.2 g2.symm
          obtain ⟨k3, k4⟩ := t2.2 g1.symm
          exact ⟨k1, k2, k3, k4⟩
      generalize t % ncV W s = i at hi hget htt
      generalize t / ncV W s = j at hj hget htt
      have hx := (ceil_lt hs1 i).2 hi
      have hy := (ceil_lt hs1 j).2 hj
      have he : tileV W H s i j = #v[((i * s : Nat) : Int), ((j * s : Nat) : Int), ((min s (W - i * s) : Nat) : Int), ((min s (H - j * s) : Nat) : Int)] := rfl
      rw [he] at hget
      generalize hX : i * s = X at *
      generalize hY : j * s = Y at *
      generalize hA : min s (W - X) = A at *
      generalize hB : min s (H - Y) = B at *
      obtain ⟨l', g1, g2, g3⟩ := onceL2 N W H X Y A B hW hH (by omega) (by omega) (by omega) (by omega) (fun c => if idxT W s c < t then 1 else 0) (fun c => by split <;> simp) N 0 l (by omega) (by
        have : A * B ≤ 64 * 64 := Nat.mul_le_mul (by omega) (by omega)
        omega) hl (fun c hc => by rw [hI c hc, if_neg (show ¬ (inT W X Y A B c = true ∧ posT W X Y A c < 0) by rintro ⟨_, h⟩; omega), Int.add_zero])
      have r0 : inRO 0 4 = some () := rfl
      have r1 : inRO 1 4 = some () := rfl
      have r2 : inRO 2 4 = some () := rfl
      have r3 : inRO 3 4 = some () := rfl
      have m1 : I64 ((X : Int) + (A : Int)) = ((X + A : Nat) : Int) := by rw [I64_id (by omega) (by omega)]; push_cast; rfl
      have m2 : I64 ((Y : Int) + (B : Int)) = ((Y + B : Nat) : Int) := by rw [I64_id (by omega) (by omega)]; push_cast; rfl
      have m3 : imax (A : Int) (B : Int) = ((max A B : Nat) : Int) := by unfold imax; split <;> omega
      rw [show ((0 : Nat) : Int) = 0 from rfl] at g1
      rw [dt (by omega), cond_true, idx_get?, hget, Option.bind_some]
      simp only [r0, r1, r2, r3, v40, v41, v42, v43, Option.bind_some, letO_e, m1, m2, m3]
      rw [df (show ¬ (X : Int) < 0 by omega), df (show ¬ (Y : Int) < 0 by omega), df (show ¬ (A : Int) < 1 by omega), df (show ¬ (B : Int) < 1 by omega), df (show ¬ ((X + A : Nat) : Int) > (W : Int) by omega), df (show ¬ ((Y + B : Nat) : Int) > (H : Int) by omega), df (show ¬ ((max A B : Nat) : Int) > (s : Int) by omega)]
      simp only [cond_false, Option.bind_some]
      rw [g1, Option.bind_some, I64_s (by omega)]
      refine onceL1 N W H s hN hW1 hW hH1 hH hs1 hs k (t + 1) l' (by omega) (by omega) g2 ?_
      intro c hc
      rw [g3 c hc]
      have hcc := htt c hc
      by_cases h1 : idxT W s c = t
      · rw [if_pos (hcc.2 h1), if_neg (by omega), if_pos (by omega)]; rfl
      · rw [if_neg (fun hh => h1 (hcc.1 hh))]
        by_cases h2 : idxT W s c < t
        · rw [if_pos h2, if_pos (by omega)]; rfl
        · rw [if_neg h2, if_neg (by omega)]; rfl
    · obtain rfl : t = ncV H s * ncV W s := by omega
      exact ⟨l, by rw [df (by omega), cond_false], hl, hI⟩
theorem tilesOnceT (N : Nat) (hN : 10000 < N) (a b c : Int) (ha : 0 ≤ a) (hb : 0 ≤ b) (hc : 0 ≤ c) : p_umbralaw40_TilesOnce N a b c = some true := by
  unfold p_umbralaw40_TilesOnce
  have small : ∀ x : Int, 0 ≤ x → ∃ n : Nat, I64 (I64 (Int.tmod x 64) + 1) = (n : Int) ∧ 1 ≤ n ∧ n ≤ 64 := by
    intro x hx
    rw [Int.tmod_eq_emod_of_nonneg hx]
    refine ⟨(x % 64 + 1).toNat, ?_, by omega, by omega⟩
    rw [I64_id (x := x % 64) (by omega) (by omega), I64_id (by omega) (by omega)]
    omega
  obtain ⟨W, e1, W1, W2⟩ := small a ha
  obtain ⟨H, e2, H1, H2⟩ := small b hb
  obtain ⟨s, e3, s1, s2⟩ := small c hc
  rw [letO_e, e1, letO_e, e2, letO_e, e3]
  have hnr : ncV H s ≤ 64 := Nat.le_trans (nc_le (by omega) (by omega)) (by omega)
  have hnc : ncV W s ≤ 64 := Nat.le_trans (nc_le (by omega) (by omega)) (by omega)
  have hm : ncV H s * ncV W s ≤ 64 * 64 := Nat.mul_le_mul hnr hnc
  have hWH : W * H ≤ 64 * 64 := Nat.mul_le_mul W2 H2
  have e0 : I64 ((W : Int) * (H : Int)) = ((W * H : Nat) : Int) := by
    rw [show (W : Int) * (H : Int) = ((W * H : Nat) : Int) by push_cast; rfl, I64_id (by omega) (by omega)]
  rw [coverP N (by omega) W H s (by unfold okT; omega), Option.bind_some, show (((tilesV W H s, (0 : Int)).2 != 0)) = false from rfl, cond_false, e0]
  have e4 : mkO 8 ((W * H : Nat) : Int) = some () := by
    unfold mkO
    rw [dt (show (0 : Int) ≤ ((W * H : Nat) : Int) by omega), dt (show ((W * H : Nat) : Int) ≤ 140737488355328 by omega), dt (show ((W * H : Nat) : Int) * ((8 : Nat) : Int) ≤ 140737488355328 by omega)]
    rfl
  obtain ⟨l, g1, g2, g3⟩ := onceL1 N W H s hN W1 W2 H1 H2 s1 s2 N 0 (List.replicate (W * H) 0) (by omega) (by omega) (by simp) (by intro c hc; rw [List.getD_eq_getElem?_getD, List.getElem?_replicate, if_pos hc]; rfl)
  rw [show ((0 : Nat) : Int) = 0 from rfl] at g1
  rw [e4, Option.bind_some, Int.toNat_natCast, g1, Option.bind_some]
  have hone : ∀ c, c < W * H → l.getD c 0 = 1 := by
    intro c hc
    rw [g3 c hc]
    have hpx : c % W < W := Nat.mod_lt _ (by omega)
    have hpy : c / W < H := (Nat.div_lt_iff_lt_mul (by omega)).2 (by rw [Nat.mul_comm]; exact hc)
    have hcx : (c % W) / s < ncV W s := (ceil_lt s1 _).1 (by have := Nat.div_mul_le_self (c % W) s; omega)
    have hcy : (c / W) / s < ncV H s := (ceil_lt s1 _).1 (by have := Nat.div_mul_le_self (c / W) s; omega)
    have : idxT W s c < ncV H s * ncV W s := by
      unfold idxT
      have : (c / W) / s * ncV W s + ncV W s ≤ ncV H s * ncV W s := by
        rw [← Nat.succ_mul]
        exact Nat.mul_le_mul_right _ (by omega)
      omega
    rw [if_pos this]
  have h3 : ∀ (k i : Nat), i ≤ W * H → W * H - i < k → p_umbralaw40_TilesOnce_L3 N ((W * H : Nat) : Int) (W : Int) (H : Int) l k (i : Int) = some (Sum.inl ()) := by
    intro k
    induction k with
    | zero => intro i _ h; omega
    | succ k ih =>
      intro i hi hk
      rw [p_umbralaw40_TilesOnce_L3, e0, Int.toNat_natCast]
      by_cases h : i < W * H
      · rw [dt (by omega), cond_true, inRO_ok (by omega) (by omega), Option.bind_some, Int.toNat_natCast, get_D (by omega), Option.bind_some, hone i h, show ((1 : Int) != 1) = false from rfl, cond_false, I64_s (by omega)]
        exact ih (i + 1) (by omega) (by omega)
      · rw [df (by omega), cond_false]
  have h4 := h3 N 0 (by omega) (by omega)
  rw [show ((0 : Nat) : Int) = 0 from rfl] at h4
  show Option.bind (p_umbralaw40_TilesOnce_L3 N ((W * H : Nat) : Int) (W : Int) (H : Int) l N 0) _ = _
  rw [h4, Option.bind_some]
  show Option.bind (p_umbralaw40_works N) _ = _
  rw [works40 N (by omega), Option.bind_some]
end Go.UK
