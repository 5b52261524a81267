/- A part of the proof: what the functions of the program compute. -/
import Derived.Test.YtcaadpceoajapaaX2
import Derived.Test.YtcaadpceoajapaaPO
namespace Go.UK
open Go Go.Proofs
set_option maxRecDepth 20000
set_option maxHeartbeats 2000000
set_option linter.all false
theorem worksK (k : Nat) : p_umbralaw29_works (k + 5) = some true := by kernel_rfl
theorem vin_ok {v : S_api_Vec} (h : v.ok) : vin v := ⟨in64_wf h.1, in64_wf h.2.1, in64_wf h.2.2⟩
theorem sin_ok {x : S_api_Sample} (h : x.ok) : sin x := ⟨vin_ok h.1, in64_wf h.2.1, in64_wf h.2.2.1, vin_ok h.2.2.2.1, in64_wf h.2.2.2.2⟩
theorem wf_u32 {x : Int} (h : (Lit.int .u32 x).wf = true) : 0 ≤ x ∧ x < 4294967296 := by
  simp [Lit.wf, IntKind.min, IntKind.max, IntKind.signed, IntKind.bits] at h
  omega
theorem filmPixelsFn (l : List S_api_Sample) (ol : l.length ≤ maxLen ∧ ∀ a ∈ l, S_api_Sample.ok a) (s : S_api_Scene) (os : s.ok) : FnM Try.prog 13 [] [(eL 9 S_api_Sample.enc l), s.enc] (eB true) [] := by
  refine umbralaw29_FilmPixels_ok (N := 65) ?_
  unfold p_umbralaw29_FilmPixels
  have hm := maxLen_e
  obtain ⟨_, _, h3, _, _, h6, _⟩ := os
  rw [letO_e, show (20 : Int) = ((20 : Nat) : Int) from rfl, slcO_min, Option.bind_some, few28_e 65 (by decide) s (by omega), Option.bind_some]
  obtain ⟨r, h1, e1, e2⟩ := pixelEq 0 (l.take 20) (few28 s) (fun x hx => sin_ok (ol.2 x (List.mem_of_mem_take hx))) (fun x hx => wf_u32 (h6.2 x (List.mem_of_mem_take hx)))
  rw [show 0 + 65 = 65 from rfl] at e1 e2
  rw [e1, Option.bind_some, e2, Option.bind_some, sameSelf 65 r.1 h1 (by decide), Option.bind_some, letO_e]
  rw [show cond true (r.2 == r.2) false = true by simp, cond_true, show (65 : Nat) = 60 + 5 from rfl, worksK]
  rfl
end Go.UK
