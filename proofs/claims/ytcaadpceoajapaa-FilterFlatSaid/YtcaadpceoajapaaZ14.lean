/- A part of the proof: what the functions of the program compute. -/
import Derived.Test.YtcaadpceoajapaaZ13
namespace Go.UK
open Go Go.Proofs
set_option maxRecDepth 20000
set_option maxHeartbeats 2000000
set_option linter.all false
/-! weighing, without the words' ends -/
abbrev wc (wt : Vector Int 9) (i : Nat) : Int := wt.toList.getD i 0
def S9 (f : Nat → Int) (wt : Vector Int 9) : Int := f 0 * wc wt 0 + f 1 * wc wt 1 + f 2 * wc wt 2 + f 3 * wc wt 3 + f 4 * wc wt 4 + f 5 * wc wt 5 + f 6 * wc wt 6 + f 7 * wc wt 7 + f 8 * wc wt 8
def W9 (wt : Vector Int 9) : Int := wc wt 0 + wc wt 1 + wc wt 2 + wc wt 3 + wc wt 4 + wc wt 5 + wc wt 6 + wc wt 7 + wc wt 8
theorem prod_bd {a b : Int} (h0 : 0 ≤ a) (h1 : a ≤ 65535) (h2 : 0 ≤ b) (h3 : b ≤ 4096) : 0 ≤ a * b ∧ a * b ≤ 268431360 := by
  refine ⟨Int.mul_nonneg h0 h2, ?_⟩
  calc a * b ≤ 65535 * b := Int.mul_le_mul_of_nonneg_right h1 h2
    _ ≤ 65535 * 4096 := Int.mul_le_mul_of_nonneg_left h3 (by omega)
    _ = 268431360 := by decide
theorem fold9 {f : Nat → Int} {wt : Vector Int 9} (hf : ∀ i, i < 9 → 0 ≤ f i ∧ f i ≤ 65535) (hw : ∀ i, i < 9 → 0 ≤ wc wt i ∧ wc wt i ≤ 4096) {s : Int} (h0 : 0 ≤ s) (h1 : s ≤ 1000000) : (List.range 9).foldl (wStep f wt) s = s + S9 f wt := by
  have b : ∀ i, i < 9 → 0 ≤ f i * wc wt i ∧ f i * wc wt i ≤ 268431360 := fun i hi => prod_bd (hf i hi).1 (hf i hi).2 (hw i hi).1 (hw i hi).2
  have b0 := b 0 (by decide); have b1 := b 1 (by decide); have b2 := b 2 (by decide); have b3 := b 3 (by decide); have b4 := b 4 (by decide)
  have b5 := b 5 (by decide); have b6 := b 6 (by decide); have b7 := b 7 (by decide); have b8 := b 8 (by decide)
  show wStep f wt (wStep f wt (wStep f wt (wStep f wt (wStep f wt (wStep f wt (wStep f wt (wStep f wt (wStep f wt s 0) 1) 2) 3) 4) 5) 6) 7) 8 = _
  unfold wStep S9
  show I64 (I64 (I64 (I64 (I64 (I64 (I64 (I64 (I64 (s + I64 (f 0 * wc wt 0)) + I64 (f 1 * wc wt 1)) + I64 (f 2 * wc wt 2)) + I64 (f 3 * wc wt 3)) + I64 (f 4 * wc wt 4)) + I64 (f 5 * wc wt 5)) + I64 (f 6 * wc wt 6)) + I64 (f 7 * wc wt 7)) + I64 (f 8 * wc wt 8)) = _
  generalize f 0 * wc wt 0 = p0 at *
  generalize f 1 * wc wt 1 = p1 at *
  generalize f 2 * wc wt 2 = p2 at *
  generalize f 3 * wc wt 3 = p3 at *
  generalize f 4 * wc wt 4 = p4 at *
  generalize f 5 * wc wt 5 = p5 at *
  generalize f 6 * wc wt 6 = p6 at *
  generalize f 7 * wc wt 7 = p7 at *
  generalize f 8 * wc wt 8 = p8 at *
  rw [I64_id (x := p0) (by omega) (by omega), I64_id (x := p1) (by omega) (by omega), I64_id (x := p2) (by omega) (by omega), I64_id (x := p3) (by omega) (by omega), I64_id (x := p4) (by omega) (by omega), I64_id (x := p5) (by omega) (by omega), I64_id (x := p6) (by omega) (by omega), I64_id (x := p7) (by omega) (by omega), I64_id (x := p8) (by omega) (by omega)]
  rw [I64_id (x := s + p0) (by omega) (by omega), I64_id (x := s + p0 + p1) (by omega) (by omega), I64_id (x := s + p0 + p1 + p2) (by omega) (by omega), I64_id (x := s + p0 + p1 + p2 + p3) (by omega) (by omega), I64_id (x := s + p0 + p1 + p2 + p3 + p4) (by omega) (by omega), I64_id (x := s + p0 + p1 + p2 + p3 + p4 + p5) (by omega) (by omega), I64_id (x := s + p0 + p1 + p2 + p3 + p4 + p5 + p6) (by omega) (by omega), I64_id (x := s + p0 + p1 + p2 + p3 + p4 + p5 + p6 + p7) (by omega) (by omega), I64_id (x := s + p0 + p1 + p2 + p3 + p4 + p5 + p6 + p7 + p8) (by omega) (by omega)]
  omega
theorem S9_bd {f : Nat → Int} {wt : Vector Int 9} {lo hi : Int} (hf : ∀ i, i < 9 → lo ≤ f i ∧ f i ≤ hi) (hw : ∀ i, i < 9 → 0 ≤ wc wt i) : lo * W9 wt ≤ S9 f wt ∧ S9 f wt ≤ hi * W9 wt := by
  have b : ∀ i, i < 9 → lo * wc wt i ≤ f i * wc wt i ∧ f i * wc wt i ≤ hi * wc wt i := fun i hi' => ⟨Int.mul_le_mul_of_nonneg_right (hf i hi').1 (hw i hi'), Int.mul_le_mul_of_nonneg_right (hf i hi').2 (hw i hi')⟩
  have b0 := b 0 (by decide); have b1 := b 1 (by decide); have b2 := b 2 (by decide); have b3 := b 3 (by decide); have b4 := b 4 (by decide)
  have b5 := b 5 (by decide); have b6 := b 6 (by decide); have b7 := b 7 (by decide); have b8 := b 8 (by decide)
  unfold S9 W9
  simp only [Int.mul_add]
  omega
theorem nb_rng {p : S_api_Plane} {w h d : Nat} (ok : PlaneOK p w h d) (x y : Nat) {k : Nat} (hk : k < d) (i : Nat) : 0 ≤ nb p w h d x y k i ∧ nb p w h d x y k i ≤ 65535 := atV_rng ok _ _ hk
theorem convV_e {p : S_api_Plane} {w h d : Nat} (ok : PlaneOK p w h d) {wt : Vector Int 9} (hw : ∀ i, i < 9 → 0 ≤ wc wt i ∧ wc wt i ≤ 4096) (ha : 0 < W9 wt) {x y k : Nat} (hk : k < d) :
    convV p w h d wt (W9 wt) x y k = (W9 wt / 2 + S9 (nb p w h d x y k) wt) / W9 wt := by
  have w0 := hw 0 (by decide); have w1 := hw 1 (by decide); have w2 := hw 2 (by decide); have w3 := hw 3 (by decide); have w4 := hw 4 (by decide)
  have w5 := hw 5 (by decide); have w6 := hw 6 (by decide); have w7 := hw 7 (by decide); have w8 := hw 8 (by decide)
  have hW : W9 wt ≤ 36864 := by unfold W9; omega
  unfold convV
  have hS := S9_bd (f := nb p w h d x y k) (wt := wt) (lo := 0) (hi := 65535) (fun i _ => nb_rng ok x y hk i) (fun i hi => (hw i hi).1)
  have h2 : I64 ((W9 wt).tdiv 2) = W9 wt / 2 := by rw [Int.tdiv_eq_ediv_of_nonneg (by omega), I64_id (by omega) (by omega)]
  rw [h2, fold9 (fun i _ => nb_rng ok x y hk i) hw (by omega) (by omega)]
  generalize S9 (nb p w h d x y k) wt = S at *
  generalize W9 wt = W at *
  rw [Int.zero_mul] at hS
  have hS2 : S ≤ 65535 * 36864 := Int.le_trans hS.2 (Int.mul_le_mul_of_nonneg_left hW (by decide))
  rw [Int.tdiv_eq_ediv_of_nonneg (by omega)]
  have q0 : 0 ≤ (W / 2 + S) / W := Int.ediv_nonneg (by omega) (by omega)
  have q1 : (W / 2 + S) / W ≤ W / 2 + S := Int.ediv_le_self _ (by omega)
  rw [I64_id (by omega) (by omega)]
theorem convV_bd {p : S_api_Plane} {w h d : Nat} (ok : PlaneOK p w h d) {wt : Vector Int 9} (hw : ∀ i, i < 9 → 0 ≤ wc wt i ∧ wc wt i ≤ 4096) (ha : 0 < W9 wt) {x y k : Nat} (hk : k < d) {lo hi : Int} (hf : ∀ i, i < 9 → lo ≤ nb p w h d x y k i ∧ nb p w h d x y k i ≤ hi) :
    lo ≤ convV p w h d wt (W9 wt) x y k ∧ convV p w h d wt (W9 wt) x y k ≤ hi := by
  rw [convV_e ok hw ha hk]
  obtain ⟨h1, h2⟩ := S9_bd (wt := wt) hf (fun i hi => (hw i hi).1)
  generalize S9 (nb p w h d x y k) wt = S at *
  generalize W9 wt = W at *
  constructor
  · rw [Int.le_ediv_iff_mul_le ha]; omega
  · have : (W / 2 + S) / W < hi + 1 := by
      rw [Int.ediv_lt_iff_lt_mul ha, Int.add_mul]
      omega
    omega
theorem convP (N : Nat) (hN : 16385 < N) {p : S_api_Plane} {w h d : Nat} (ok : PlaneOK p w h d) (hs : Small42 p N) (hc : chk p = 0) {wt : Vector Int 9} (h1 : p_filter_Convolve_L1 N wt N 0 0 = some (Sum.inl (W9 wt))) (ha : 0 < W9 wt) :
    p_filter_Convolve N p wt = some (mkP p w h d (convV p w h d wt (W9 wt)), 0) := by
  unfold p_filter_Convolve
  rw [pamCheck N p hs, hc, Option.bind_some, show ((0 : Int) != 0) = false from rfl, cond_false, h1, Option.bind_some]
  show cond (W9 wt == 0) _ _ = _
  rw [show (W9 wt == 0) = false by simp; omega, cond_false, ok.W, ok.H, filterEach N hN ok wt (by omega), ok.D]
  rfl
def tent : Vector Int 9 := #v[1, 2, 1, 2, 4, 2, 1, 2, 1]
def box : Vector Int 9 := #v[1, 1, 1, 1, 1, 1, 1, 1, 1]
theorem tent_wc : ∀ i, i < 9 → 0 ≤ wc tent i ∧ wc tent i ≤ 4096 := by decide
theorem box_wc : ∀ i, i < 9 → 0 ≤ wc box i ∧ wc box i ≤ 4096 := by decide
theorem tent_L1 (k : Nat) : p_filter_Convolve_L1 (k + 16) tent (k + 16) 0 0 = some (Sum.inl (W9 tent)) := by kernel_rfl
theorem box_L1 (k : Nat) : p_filter_Convolve_L1 (k + 16) box (k + 16) 0 0 = some (Sum.inl (W9 box)) := by kernel_rfl
/-- weights that do not turn -/
theorem S9_tent (f : Nat → Int) {κ : Nat} (hκ : κ < 4) : S9 (fun i => f (tp κ i)) tent = S9 f tent := by
  rcases cast4 hκ with e | e | e | e <;> subst e <;> simp [S9, tp, wc, tent] <;> omega
theorem S9_box (f : Nat → Int) {κ : Nat} (hκ : κ < 4) : S9 (fun i => f (tp κ i)) box = S9 f box := by
  rcases cast4 hκ with e | e | e | e <;> subst e <;> simp [S9, tp, wc, box] <;> omega
theorem S9_congr {f g : Nat → Int} (wt : Vector Int 9) (h : ∀ i, i < 9 → f i = g i) : S9 f wt = S9 g wt := by
  unfold S9
  rw [h 0 (by decide), h 1 (by decide), h 2 (by decide), h 3 (by decide), h 4 (by decide), h 5 (by decide), h 6 (by decide), h 7 (by decide), h 8 (by decide)]
theorem txy_lt {κ w h x y : Nat} (hκ : κ < 4) (hx : x < tw κ w h) (hy : y < th κ w h) : (tx κ w x y).toNat < w ∧ (ty κ h x y).toNat < h := by
  rcases cast4 hκ with e | e | e | e <;> subst e
  · exact ⟨hx, hy⟩
  · have h1 : x < w := hx; have h2 : y < h := hy
    exact ⟨by show ((w : Int) - 1 - x).toNat < w; omega, h2⟩
  · have h1 : x < w := hx; have h2 : y < h := hy
    exact ⟨h1, by show ((h : Int) - 1 - y).toNat < h; omega⟩
  · exact ⟨hy, hx⟩
/-- turning what was made -/
theorem flV_mkP {p : S_api_Plane} {w h d : Nat} {f : Nat → Nat → Nat → Int} {κ : Nat} (hκ : κ < 4) {x y k : Nat} (hx : x < tw κ w h) (hy : y < th κ w h) (hk : k < d) :
    flV (mkP p w h d f) w h d κ x y k = f (tx κ w x y).toNat (ty κ h x y).toNat k := by
  rcases cast4 hκ with e | e | e | e <;> subst e
  · exact mkP_at hx hy hk
  · have h1 : x < w := hx; have h2 : y < h := hy
    refine (mkP_at (x := w - 1 - x) (y := y) (by omega) h2 hk).trans ?_
    show f (w - 1 - x) y k = f ((w : Int) - 1 - x).toNat ((y : Nat) : Int).toNat k
    rw [show ((w : Int) - 1 - (x : Int)).toNat = w - 1 - x by omega]; rfl
  · have h1 : x < w := hx; have h2 : y < h := hy
    refine (mkP_at (x := x) (y := h - 1 - y) h1 (by omega) hk).trans ?_
    show f x (h - 1 - y) k = f ((x : Nat) : Int).toNat ((h : Int) - 1 - y).toNat k
    rw [show ((h : Int) - 1 - (y : Int)).toNat = h - 1 - y by omega]; rfl
  · exact mkP_at (x := y) (y := x) hy hx hk
/-- turned, and what is made of neighbours: in whichever order -/
theorem turn_num {p : S_api_Plane} {w h d : Nat} (ok : PlaneOK p w h d) {κ : Nat} (hκ : κ < 4) (num : S_api_Plane → Nat → Nat → Nat → Nat → Nat → Nat → Int)
    (hn : ∀ x y k, x < tw κ w h → y < th κ w h → k < d → num (flP p w h d κ) (tw κ w h) (th κ w h) d x y k = num p w h d (tx κ w x y).toNat (ty κ h x y).toNat k) :
    mkP (flP p w h d κ) (tw κ w h) (th κ w h) d (num (flP p w h d κ) (tw κ w h) (th κ w h) d) = flP (mkP p w h d (num p w h d)) w h d κ := by
  obtain ⟨a, _, _, _⟩ := t_bd (κ := κ) ok.w1 ok.w2 ok.h1 ok.h2
  rw [flP_e (mkP p w h d (num p w h d))]
  have e1 : ∀ f, mkP (flP p w h d κ) (tw κ w h) (th κ w h) d f = mkP p (tw κ w h) (th κ w h) d f := by
    intro f; unfold mkP; rw [flP_name]
  have e2 : ∀ f g, mkP (mkP p w h d f) (tw κ w h) (th κ w h) d g = mkP p (tw κ w h) (th κ w h) d g := fun _ _ => rfl
  rw [e1, e2]
  refine mkP_congr ok.d1 a (fun x y k hx hy hk => ?_)
  rw [hn x y k hx hy hk, flV_mkP hκ hx hy hk]
end Go.UK
