/- A part of the proof: what the functions of the program compute. -/
import Derived.Test.YtcaadpceoajapaaT2
import Derived.Test.YtcaadpceoajapaaDO
namespace Go.UK
open Go Go.Proofs
set_option linter.all false
theorem nn8 {x : Int} (h : (Lit.int .u8 x).wf = true) : 0 ≤ x := by
  simp [Lit.wf, IntKind.min, IntKind.max, IntKind.signed, IntKind.bits] at h
  omega
theorem tilesOnceFn (a : Int) (oa : (Lit.int .u8 a).wf = true) (b : Int) (ob : (Lit.int .u8 b).wf = true) (c : Int) (oc : (Lit.int .u8 c).wf = true) : FnM Try.prog 4 [] [k8 a, k8 b, k8 c] (eB true) [] :=
  umbralaw40_TilesOnce_ok (tilesOnceT 10001 (by decide) a b c (nn8 oa) (nn8 ob) (nn8 oc))
end Go.UK
