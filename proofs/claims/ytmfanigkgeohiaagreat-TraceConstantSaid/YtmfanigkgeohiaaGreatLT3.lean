/- A part of the proof: what the functions of the program compute. -/
import Derived.Test.YtmfanigkgeohiaaGreatJ4
import Derived.Test.YtmfanigkgeohiaaGreatMO
import Derived.Test.YtmfanigkgeohiaaGreatR0T
namespace Go.UK
open Go Go.Proofs
set_option maxRecDepth 20000
set_option linter.all false
theorem aEu (a0:aG) (_:aG.ok a0) (a1:aI) (_:aI.ok a1) (a2:Vector Int 3) (_:∀ x∈a2.toList,(Lit.int .i64 x).wf=true):FnM Tryz.prog 3 [] [(aG.enc a0),(aI.enc a1),(eA 3 1 j64 a2)] (eB true) []:=
 xW (aMP 2000000000000 (by decide) aPv a0 a1 a2)
end Go.UK
