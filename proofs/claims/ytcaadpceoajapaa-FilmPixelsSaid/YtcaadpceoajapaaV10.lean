/- A part of the proof: what the functions of the program compute. -/
import Derived.Test.YtcaadpceoajapaaV9
namespace Go.UK
open Go Go.Proofs
set_option maxRecDepth 20000
set_option maxHeartbeats 2000000
set_option linter.all false

def vin (v : S_api_Vec) : Prop := in64 v.gX ∧ in64 v.gY ∧ in64 v.gZ
def vAdd (u v : S_api_Vec) : S_api_Vec := ⟨S64 (u.gX + v.gX), S64 (u.gY + v.gY), S64 (u.gZ + v.gZ)⟩
def vScale (v : S_api_Vec) (s : Int) : S_api_Vec := ⟨S64 (v.gX * s / 4294967296), S64 (v.gY * s / 4294967296), S64 (v.gZ * s / 4294967296)⟩
theorem vAdd_in (u v : S_api_Vec) : vin (vAdd u v) := ⟨S64_in _, S64_in _, S64_in _⟩
theorem vScale_in (u : S_api_Vec) (s : Int) : vin (vScale u s) := ⟨S64_in _, S64_in _, S64_in _⟩

theorem each0 (k : Nat) {u v : S_api_Vec} (hu : vin u) (hv : vin v) : p_vec_each_v0 (k + 3) u v = some (vAdd u v) := by
  unfold p_vec_each_v0 p_vec_Add_1
  rw [fixAdd2 k hu.1 hv.1, fixAdd2 k hu.2.1 hv.2.1, fixAdd2 k hu.2.2 hv.2.2]
  rfl
theorem each1 (k : Nat) {u v : S_api_Vec} (hu : vin u) (hv : vin v) : p_vec_each_v1 (k + 3) u v = some ⟨S64 (u.gX * v.gX / 4294967296), S64 (u.gY * v.gY / 4294967296), S64 (u.gZ * v.gZ / 4294967296)⟩ := by
  unfold p_vec_each_v1 p_vec_Times_1
  rw [fixMul2 k hu.1 hv.1, fixMul2 k hu.2.1 hv.2.1, fixMul2 k hu.2.2 hv.2.2]
  rfl
theorem vix0 (a b : S_api_Vec) : idx [a, b] 0 = some a := rfl
theorem vix1 (a b : S_api_Vec) : idx [a, b] 1 = some b := rfl

theorem vecAdd (k : Nat) {u v : S_api_Vec} (hu : vin u) (hv : vin v) : p_vec_Add (k + 3) [u, v] = some (vAdd u v) := by
  unfold p_vec_Add
  have l2 : (([u, v] : List S_api_Vec).length : Int) = 2 := rfl
  rw [p_vec_Add_L1, letO_e, l2, dt (show (0 : Int) < 2 by decide), cond_true, vix0]
  simp only [Option.bind_some]
  rw [each0 k (u := ⟨0, 0, 0⟩) ⟨⟨by decide, by decide⟩, ⟨by decide, by decide⟩, ⟨by decide, by decide⟩⟩ hu]
  simp only [Option.bind_some]
  have e : vAdd ⟨0, 0, 0⟩ u = u := by
    unfold vAdd
    simp only [Int.zero_add, S64_id hu.1, S64_id hu.2.1, S64_id hu.2.2]
  rw [e, show I64 (0 + 1) = 1 by decide, p_vec_Add_L1, letO_e, l2, dt (show (1 : Int) < 2 by decide), cond_true, vix1]
  simp only [Option.bind_some]
  rw [each0 k (u := ⟨u.gX, u.gY, u.gZ⟩) hu hv]
  simp only [Option.bind_some]
  rw [show I64 (1 + 1) = 2 by decide, p_vec_Add_L1, letO_e, l2, df (show ¬ (2 : Int) < 2 by decide), cond_false]
  rfl
theorem r3Two (N : Nat) {u v : S_api_Vec} (hu : vin u) (hv : vin v) : p_umbraref03_Two N u v = some (vAdd u v) := by
  unfold p_umbraref03_Two
  rw [rTwo N hu.1 hv.1, rTwo N hu.2.1 hv.2.1, rTwo N hu.2.2 hv.2.2]
  rfl

theorem vecScale (k : Nat) {v : S_api_Vec} {s : Int} (hv : vin v) (hs : in64 s) : p_vec_Scale (k + 3) v s = some (vScale v s) := by
  unfold p_vec_Scale p_vec_Times
  have l2 : (([v, ⟨s, s, s⟩] : List S_api_Vec).length : Int) = 2 := rfl
  rw [p_vec_Times_L1, letO_e, l2, dt (show (0 : Int) < 2 by decide), cond_true, vix0]
  simp only [Option.bind_some]
  rw [each1 k (u := ⟨4294967296, 4294967296, 4294967296⟩) ⟨⟨by decide, by decide⟩, ⟨by decide, by decide⟩, ⟨by decide, by decide⟩⟩ hv]
  simp only [Option.bind_some]
  have e : ∀ x : Int, in64 x → S64 (4294967296 * x / 4294967296) = x := by
    intro x hx
    rw [Int.mul_ediv_cancel_left _ (by decide), S64_id hx]
  rw [e _ hv.1, e _ hv.2.1, e _ hv.2.2, show I64 (0 + 1) = 1 by decide, p_vec_Times_L1, letO_e, l2, dt (show (1 : Int) < 2 by decide), cond_true, vix1]
  simp only [Option.bind_some]
  rw [each1 k (u := ⟨v.gX, v.gY, v.gZ⟩) (v := ⟨s, s, s⟩) hv ⟨hs, hs, hs⟩]
  simp only [Option.bind_some]
  rw [show I64 (1 + 1) = 2 by decide, p_vec_Times_L1, letO_e, l2, df (show ¬ (2 : Int) < 2 by decide), cond_false]
  rfl
theorem r3Scale (N : Nat) {v : S_api_Vec} {s : Int} (hv : vin v) (hs : in64 s) : p_umbraref03_Scale N v s = some (vScale v s) := by
  unfold p_umbraref03_Scale
  rw [rTimes N hv.1 hs, rTimes N hv.2.1 hs, rTimes N hv.2.2 hs]
  rfl
end Go.UK
