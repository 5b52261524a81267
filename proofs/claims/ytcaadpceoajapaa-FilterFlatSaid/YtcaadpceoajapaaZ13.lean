/- A part of the proof: what the functions of the program compute. -/
import Derived.Test.YtcaadpceoajapaaZ12
namespace Go.UK
open Go Go.Proofs
set_option maxRecDepth 20000
set_option maxHeartbeats 2000000
set_option linter.all false
/-! turning twice, turning and making smooth -/
/-- the size of a turned plane -/
def tw (κ w h : Nat) : Nat := if κ = 3 then h else w
def th (κ w h : Nat) : Nat := if κ = 3 then w else h
theorem flP_e (p : S_api_Plane) (w h d κ : Nat) : flP p w h d κ = mkP p (tw κ w h) (th κ w h) d (flV p w h d κ) := by
  unfold flP tw th; split <;> rfl
theorem flV_rng {p : S_api_Plane} {w h d : Nat} (ok : PlaneOK p w h d) (κ x y : Nat) {k : Nat} (hk : k < d) : 0 ≤ flV p w h d κ x y k ∧ flV p w h d κ x y k ≤ 65535 := by
  unfold flV; split <;> exact atV_rng ok _ _ hk
theorem t_bd {κ w h : Nat} (a1 : 1 ≤ w) (a2 : w ≤ 64) (b1 : 1 ≤ h) (b2 : h ≤ 64) : 1 ≤ tw κ w h ∧ tw κ w h ≤ 64 ∧ 1 ≤ th κ w h ∧ th κ w h ≤ 64 := by
  unfold tw th; split <;> omega
theorem flP_ok {p : S_api_Plane} {w h d : Nat} (ok : PlaneOK p w h d) (κ : Nat) : PlaneOK (flP p w h d κ) (tw κ w h) (th κ w h) d := by
  rw [flP_e]
  obtain ⟨a, b, c, e⟩ := t_bd (κ := κ) ok.w1 ok.w2 ok.h1 ok.h2
  exact mkP_ok a b c e ok.d1 ok.d2 (fun x y k _ _ hk => flV_rng ok κ x y hk)
theorem flP_name (p : S_api_Plane) (w h d κ : Nat) : (flP p w h d κ).gName = p.gName := by rw [flP_e]; rfl
/-- a number of the turned plane, anywhere -/
theorem atV_mkP {p : S_api_Plane} {w h d : Nat} {f : Nat → Nat → Nat → Int} (hw : 1 ≤ w) (hh : 1 ≤ h) (x y : Int) {k : Nat} (hk : k < d) : atV (mkP p w h d f) w h d x y k = f (clp x w) (clp y h) k := by
  unfold atV
  exact eachV_at f (clp_lt hw) (clp_lt hh) hk
theorem atV_clp (p : S_api_Plane) {w h : Nat} (d : Nat) (hw : 1 ≤ w) (hh : 1 ≤ h) (x y : Int) (k : Nat) : atV p w h d ((clp x w : Nat) : Int) ((clp y h : Nat) : Int) k = atV p w h d x y k := by
  unfold atV
  rw [clp_id (clp_lt hw), clp_id (clp_lt hh)]
theorem clp_rev {x : Int} {w : Nat} (hw : 1 ≤ w) : w - 1 - clp x w = clp ((w : Int) - 1 - x) w := by
  unfold clp
  (repeat' split) <;> omega
/-- where a place lies in the plane that was turned -/
def tx (κ w : Nat) (x y : Int) : Int := if κ = 1 then (w : Int) - 1 - x else if κ = 3 then y else x
def ty (κ h : Nat) (x y : Int) : Int := if κ = 2 then (h : Int) - 1 - y else if κ = 3 then x else y
theorem atV_flP {p : S_api_Plane} {w h d : Nat} (ok : PlaneOK p w h d) {κ : Nat} (hκ : κ < 4) (x y : Int) {k : Nat} (hk : k < d) : atV (flP p w h d κ) (tw κ w h) (th κ w h) d x y k = atV p w h d (tx κ w x y) (ty κ h x y) k := by
  have hw := ok.w1; have hh := ok.h1
  obtain ⟨a, _, c, _⟩ := t_bd (κ := κ) ok.w1 ok.w2 ok.h1 ok.h2
  rw [flP_e, atV_mkP a c x y hk]
  rcases cast4 hκ with e | e | e | e <;> subst e
  · exact atV_clp p d hw hh x y k
  · show atV p w h d ((w - 1 - clp x w : Nat) : Int) ((clp y h : Nat) : Int) k = _
    rw [clp_rev hw, atV_clp p d hw hh]
    rfl
  · show atV p w h d ((clp x w : Nat) : Int) ((h - 1 - clp y h : Nat) : Int) k = _
    rw [clp_rev hh, atV_clp p d hw hh]
    rfl
  · exact atV_clp p d hw hh y x k
theorem tw_tw {κ : Nat} (w h : Nat) : tw κ (tw κ w h) (th κ w h) = w ∧ th κ (tw κ w h) (th κ w h) = h := by
  unfold tw th; split <;> simp
/-- turned twice -/
theorem flP_flP {p : S_api_Plane} {w h d : Nat} (ok : PlaneOK p w h d) {κ : Nat} (hκ : κ < 4) : flP (flP p w h d κ) (tw κ w h) (th κ w h) d κ = p := by
  have hw := ok.w1; have hh := ok.h1
  rw [flP_e, (tw_tw (κ := κ) w h).1, (tw_tw (κ := κ) w h).2]
  have e1 : ∀ f, mkP (flP p w h d κ) w h d f = mkP p w h d f := by
    intro f; unfold mkP; rw [flP_name]
  rw [e1, mkP_congr (g := fun x y k => atV p w h d x y k) ok.d1 hw, mkP_self ok]
  intro x y k hx hy hk
  rcases cast4 hκ with e | e | e | e <;> subst e
  · show atV (flP p w h d 0) w h d (x : Int) (y : Int) k = _
    have := atV_flP ok (κ := 0) (by decide) (x : Int) (y : Int) hk
    exact this
  · show atV (flP p w h d 1) w h d ((w - 1 - x : Nat) : Int) (y : Int) k = _
    have := atV_flP ok (κ := 1) (by decide) ((w - 1 - x : Nat) : Int) (y : Int) hk
    refine this.trans ?_
    show atV p w h d ((w : Int) - 1 - ((w - 1 - x : Nat) : Int)) (y : Int) k = _
    rw [show (w : Int) - 1 - ((w - 1 - x : Nat) : Int) = (x : Int) by omega]
  · show atV (flP p w h d 2) w h d (x : Int) ((h - 1 - y : Nat) : Int) k = _
    have := atV_flP ok (κ := 2) (by decide) (x : Int) ((h - 1 - y : Nat) : Int) hk
    refine this.trans ?_
    show atV p w h d (x : Int) ((h : Int) - 1 - ((h - 1 - y : Nat) : Int)) k = _
    rw [show (h : Int) - 1 - ((h - 1 - y : Nat) : Int) = (y : Int) by omega]
  · show atV (flP p w h d 3) h w d (y : Int) (x : Int) k = _
    have := atV_flP ok (κ := 3) (by decide) (y : Int) (x : Int) hk
    exact this
/-- the neighbours' numbers of a turned plane: the same, in another order -/
def tp (κ i : Nat) : Nat := if κ = 1 then 3 * (i / 3) + (2 - i % 3) else if κ = 2 then 3 * (2 - i / 3) + i % 3 else if κ = 3 then 3 * (i % 3) + i / 3 else i
theorem nb_flP {p : S_api_Plane} {w h d : Nat} (ok : PlaneOK p w h d) {κ : Nat} (hκ : κ < 4) {x y k i : Nat} (hx : x < tw κ w h) (hy : y < th κ w h) (hk : k < d) (hi : i < 9) :
    nb (flP p w h d κ) (tw κ w h) (th κ w h) d x y k i = nb p w h d (tx κ w x y).toNat (ty κ h x y).toNat k (tp κ i) := by
  unfold nb
  rw [atV_flP ok hκ _ _ hk]
  rcases cast4 hκ with e | e | e | e <;> subst e
  · rfl
  · have hx' : x < w := hx
    have e1 : tp 1 i = 3 * (i / 3) + (2 - i % 3) := rfl
    rw [e1, show (3 * (i / 3) + (2 - i % 3)) % 3 = 2 - i % 3 by omega, show (3 * (i / 3) + (2 - i % 3)) / 3 = i / 3 by omega]
    show atV p w h d ((w : Int) - 1 - ((x : Int) + ((i % 3 : Nat) : Int) - 1)) ((y : Int) + ((i / 3 : Nat) : Int) - 1) k = atV p w h d ((((w : Int) - 1 - (x : Int)).toNat : Int) + ((2 - i % 3 : Nat) : Int) - 1) (((((y : Nat) : Int).toNat : Nat) : Int) + ((i / 3 : Nat) : Int) - 1) k
    congr 1
    omega
  · have hy' : y < h := hy
    have e1 : tp 2 i = 3 * (2 - i / 3) + i % 3 := rfl
    rw [e1, show (3 * (2 - i / 3) + i % 3) % 3 = i % 3 by omega, show (3 * (2 - i / 3) + i % 3) / 3 = 2 - i / 3 by omega]
    show atV p w h d ((x : Int) + ((i % 3 : Nat) : Int) - 1) ((h : Int) - 1 - ((y : Int) + ((i / 3 : Nat) : Int) - 1)) k = atV p w h d (((((x : Nat) : Int).toNat : Nat) : Int) + ((i % 3 : Nat) : Int) - 1) ((((h : Int) - 1 - (y : Int)).toNat : Int) + ((2 - i / 3 : Nat) : Int) - 1) k
    congr 1
    omega
  · have e1 : tp 3 i = 3 * (i % 3) + i / 3 := rfl
    rw [e1, show (3 * (i % 3) + i / 3) % 3 = i / 3 by omega, show (3 * (i % 3) + i / 3) / 3 = i % 3 by omega]
    rfl
end Go.UK
