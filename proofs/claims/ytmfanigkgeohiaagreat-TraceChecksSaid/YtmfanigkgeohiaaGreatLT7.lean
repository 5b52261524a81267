/- A part of the proof: what the functions of the program compute. -/
import Derived.Test.YtmfanigkgeohiaaGreatJ4
import Derived.Test.YtmfanigkgeohiaaGreatCO
import Derived.Test.YtmfanigkgeohiaaGreatR0T
namespace Go.UK
open Go Go.Proofs
set_option maxRecDepth 20000
set_option linter.all false
theorem aFY (a0 : aG) (_ : aG.ok a0) (a1 : aI) (_ : aI.ok a1) : FnM Tryz.prog 7 [] [(aG.enc a0), (aI.enc a1)] (eB true) [] :=
 wU (aG5 1999999999996 (by decide) aNk a0 a1)
end Go.UK

