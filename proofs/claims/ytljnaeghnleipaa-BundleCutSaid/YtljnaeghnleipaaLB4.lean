/- A part of the proof: what the functions of the program compute. -/
import Derived.Test.YtljnaeghnleipaaRS
import Derived.Test.YtljnaeghnleipaaRD
namespace Go.UK
open Go Go.Proofs
set_option maxRecDepth 20000
set_option linter.all false
theorem bundleCutFn (s : S_umbralaw16_Sealed) (os : s.ok) (a : S_api_Asset) (oa : a.ok) (z : Int) (oz : (Lit.int .i64 z).wf = true) : FnM Try.prog 6 [] [s.enc, a.enc, j64 z] (eB true) [] :=
 umbralaw16_BundleCut_ok (bundleCutT 70000 (by decide) works16 s a z (sealedOk os).1 (sealedOk os).2)
end Go.UK

