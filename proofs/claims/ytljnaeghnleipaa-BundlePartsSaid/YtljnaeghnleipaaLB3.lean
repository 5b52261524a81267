/- A part of the proof: what the functions of the program compute. -/
import Derived.Test.YtljnaeghnleipaaRS
import Derived.Test.YtljnaeghnleipaaRD
namespace Go.UK
open Go Go.Proofs
set_option maxRecDepth 20000
set_option linter.all false
theorem bundlePartsFn (s : S_umbralaw16_Sealed) (os : s.ok) (a : S_api_Asset) (oa : a.ok) : FnM Try.prog 5 [] [s.enc, a.enc] (eB true) [] :=
 umbralaw16_BundleParts_ok (bundlePartsT 70000 (by decide) works16 s a (sealedOk os).1 (sealedOk os).2)
end Go.UK

