/- A part of the proof: what the functions of the program compute. -/
import Derived.Test.YtmfanigkgeohiaaGreatJ4
import Derived.Test.YtmfanigkgeohiaaGreatAO
import Derived.Test.YtmfanigkgeohiaaGreatR0T
namespace Go.UK
open Go Go.Proofs
set_option maxRecDepth 20000
set_option linter.all false
theorem aIK (a0 : aF) (_ : aF.ok a0) (a1 : aH) (_ : aH.ok a1) (a2 : Vector Int 6) (_ : ∀ x ∈ a2.toList, (Lit.int .i64 x).wf = true) : FnM Tryz.prog 4 [] [(aF.enc a0), (aH.enc a1), (eA 6 1 j64 a2)] (eB true) [] :=
 zP (aJS 2000000000000 (by decide) aOy a0 a1 a2)
end Go.UK

