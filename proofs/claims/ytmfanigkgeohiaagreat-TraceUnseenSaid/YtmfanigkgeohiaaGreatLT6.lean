/- A part of the proof: what the functions of the program compute. -/
import Derived.Test.YtmfanigkgeohiaaGreatJ4
import Derived.Test.YtmfanigkgeohiaaGreatVO
import Derived.Test.YtmfanigkgeohiaaGreatR0T
namespace Go.UK
open Go Go.Proofs
set_option maxRecDepth 20000
set_option linter.all false
theorem aHC (a0:aF) (_:aF.ok a0) (a1:aI) (_:aI.ok a1) (a2:Vector Int 3) (_:∀ x∈a2.toList,(Lit.int .i64 x).wf=true):FnM Tryz.prog 6 [] [(aF.enc a0),(aI.enc a1),(eA 3 1 j64 a2)] (eB true) []:=
 zJ (aP7 2000000000000 (by decide) aQv a0 a1 a2)
end Go.UK
