/- A part of the proof: what the functions of the program compute. -/
import Derived.Test.YtmfanigkgeohiaaGreatJ4
import Derived.Test.YtmfanigkgeohiaaGreatSO
import Derived.Test.YtmfanigkgeohiaaGreatR0T
namespace Go.UK
open Go Go.Proofs
set_option maxRecDepth 20000
set_option linter.all false
theorem aHK (a0 : aE) (_ : aE.ok a0) (a1 : aE) (_ : aE.ok a1) (a2 : aI) (_ : aI.ok a2) : FnM Tryz.prog 9 [] [(aE.enc a0), (aE.enc a1), (aI.enc a2)] (eB true) [] :=
 aAB (aQy 2000000000000 (by decide) aOy a0 a1 a2)
end Go.UK

