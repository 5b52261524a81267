/- A part of the proof: what the functions of the program compute. -/
import Derived.Test.YtmmabhkichiikaaGreatJ5
import Derived.Test.YtmmabhkichiikaaGreatTO
import Derived.Test.YtmmabhkichiikaaGreatR0C
namespace Go.UK
open Go Go.Proofs
set_option maxRecDepth 20000
set_option linter.all false
theorem aM5(a0:aE)(_:aE.ok a0)(a1:aF)(_:aF.ok a1)(a2:Vector Int 2)(_:∀a∈a2.toList,(λx=>(Lit.int .u8 x).wf=true) a):FnM Tryz.prog 3 [] [(aE.enc a0),(aF.enc a1),(eA 2 1 k8 a2)] (eB true) []:=
 aCr (aOr 2000000000000 (by decide) aUl a0 a1 a2)
end Go.UK
