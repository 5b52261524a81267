/- A part of the proof: what the functions of the program compute. -/
import Derived.Test.YtcaadpceoajapaaZ2
namespace Go.UK
open Go Go.Proofs
set_option maxRecDepth 20000
set_option maxHeartbeats 2000000
set_option linter.all false
/-! all numbers of a plane, in their order -/
def eachV (w h d : Nat) (f : Nat → Nat → Nat → Int) : List Int := (List.range (w * h * d)).map fun i => f (i / d % w) (i / d / w) (i % d)
theorem eachV_len (w h d : Nat) (f : Nat → Nat → Nat → Int) : (eachV w h d f).length = w * h * d := by unfold eachV; simp
theorem eachV_flat {w h d : Nat} (hw : 0 < w) (hd : 0 < d) (f : Nat → Nat → Nat → Int) :
    (List.range h).flatMap (fun y => (List.range w).flatMap fun x => (List.range d).map fun k => f x y k) = eachV w h d f := by
  have e1 : ∀ y, (List.range w).flatMap (fun x => (List.range d).map fun k => f x y k) = (List.range (w * d)).map fun i => f (i / d) y (i % d) := fun y => range_flat w d hd (fun x k => f x y k)
  rw [show (fun y => (List.range w).flatMap fun x => (List.range d).map fun k => f x y k) = fun y => (List.range (w * d)).map fun i => f (i / d) y (i % d) from funext e1]
  rw [range_flat h (w * d) (Nat.mul_pos hw hd) (fun y i => f (i / d) y (i % d))]
  unfold eachV
  rw [show h * (w * d) = w * h * d by rw [← Nat.mul_assoc, Nat.mul_comm h w]]
  apply List.map_congr_left
  intro i _
  rw [show i % (w * d) / d = i / d % w by rw [Nat.mul_comm w d, Nat.mod_mul_right_div_self], show i / (w * d) = i / d / w by rw [Nat.mul_comm w d, Nat.div_div_eq_div_mul], show i % (w * d) % d = i % d by rw [Nat.mod_mul_left_mod]]
theorem dim_bd {w h d : Nat} (hw : w ≤ 64) (hh : h ≤ 64) (hd : d ≤ 4) : w * h * d ≤ 16384 := by
  have b1 : w * h ≤ 64 * 64 := Nat.mul_le_mul hw hh
  exact Nat.mul_le_mul b1 hd
theorem dim_e {w h d : Nat} (hw : w ≤ 64) (hh : h ≤ 64) (hd : d ≤ 4) : I64 (I64 ((w : Int) * h) * d) = ((w * h * d : Nat) : Int) := by
  have b1 : w * h ≤ 64 * 64 := Nat.mul_le_mul hw hh
  have b2 := dim_bd hw hh hd
  have e1 : (w : Int) * (h : Int) = ((w * h : Nat) : Int) := by simp
  rw [e1, I64_id (x := ((w * h : Nat) : Int)) (by omega) (by omega)]
  have e2 : ((w * h : Nat) : Int) * (d : Int) = ((w * h * d : Nat) : Int) := by simp
  rw [e2, I64_id (by omega) (by omega)]
/-- a row of numbers, made one by one -/
theorem rowLoop {n : Nat} (hn : n ≤ 16384) (g : Nat → Int) (F : Nat → List Int → Int → Option (List Int)) (s0 : List Int) (hs0 : s0.length ≤ 100000)
    (hstep : ∀ k s i, i < n → s.length ≤ 200000 → F (k + 1) s (i : Int) = F k (s ++ [g i]) (I64 ((i : Int) + 1))) (hend : ∀ k s, F (k + 1) s (n : Int) = some s)
    {N : Nat} (hN : n < N) : F N s0 0 = some (s0 ++ (List.range n).map g) := by
  have := loopFlat0 n (by omega) (fun i => [g i]) (fun s i => s.length = s0.length + i) F (fun s i _ h => by simp [h]; omega) (fun k s i hi h => hstep k s i hi (by omega)) hend hN (s := s0) rfl
  rw [flatMap_single] at this
  exact this
theorem appO8 {s r : List Int} (hs : s.length ≤ 200000) (hr : r.length ≤ 200000) : appO 8 s r = some (s ++ r) := appO_ok (by omega)
/-- rows of rows -/
theorem rowsLoop {n m : Nat} (hn : n ≤ 64) (hm : m ≤ 256) (g : Nat → List Int) (hg : ∀ i, (g i).length = m) (F : Nat → List Int → Int → Option (List Int)) (s0 : List Int) (hs0 : s0.length ≤ 50000)
    (hstep : ∀ k s i, i < n → s.length ≤ 100000 → F (k + 1) s (i : Int) = F k (s ++ g i) (I64 ((i : Int) + 1))) (hend : ∀ k s, F (k + 1) s (n : Int) = some s)
    {N : Nat} (hN : n < N) : F N s0 0 = some (s0 ++ (List.range n).flatMap g) := by
  have hnm : ∀ i, i < n → i * m ≤ 64 * 256 := fun i hi => Nat.mul_le_mul (by omega) hm
  exact loopFlat0 n (by omega) g (fun s i => s.length = s0.length + i * m) F (fun s i hi h => by rw [List.length_append, h, hg, Nat.succ_mul]; omega) (fun k s i hi h => hstep k s i hi (by have := hnm i hi; omega)) hend hN (s := s0) (by simp)
theorem flat_len {m : Nat} (g : Nat → List Int) (hg : ∀ i, (g i).length = m) (n : Nat) : ((List.range n).flatMap g).length = n * m := by
  induction n with
  | zero => simp
  | succ n ih => rw [List.range_succ, List.flatMap_append, List.length_append, ih, Nat.succ_mul]; simp [hg]
end Go.UK
