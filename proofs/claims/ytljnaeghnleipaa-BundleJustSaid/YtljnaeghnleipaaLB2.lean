/- A part of the proof: what the functions of the program compute. -/
import Derived.Test.YtljnaeghnleipaaRD
import Derived.Test.YtljnaeghnleipaaR0
namespace Go.UK
open Go Go.Proofs
set_option maxRecDepth 20000
set_option linter.all false
theorem bundleJustFn (k : Vector Int 32) (ok : ∀ a ∈ k.toList, (Lit.int .u8 a).wf = true) (b : List Int) (ob : b.length ≤ maxLen ∧ ∀ a ∈ b, (Lit.int .u8 a).wf = true) : FnM Try.prog 4 [] [eA 32 1 k8 k, eL 1 k8 b] (eB true) [] :=
 umbralaw16_BundleJust_ok (bundleJustT 70000 (by decide) works16 k b (fun x hx => wfB (ob.2 x hx)))
end Go.UK

