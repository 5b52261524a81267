/- A part of the proof: what the functions of the program compute. -/
import Derived.Test.YtmmabhkichiikaaGreatJ5
import Derived.Test.YtmmabhkichiikaaGreatTO
import Derived.Test.YtmmabhkichiikaaGreatR0C
namespace Go.UK
open Go Go.Proofs
set_option maxRecDepth 20000
set_option linter.all false
theorem u8_b{x:Int}(h:(Lit.int .u8 x).wf=true):0<=x/\x < 256:=by
 simp[Lit.wf,IntKind.min,IntKind.max,show IntKind.u8.signed=false from rfl,show IntKind.u8.bits=8 from rfl] at h;omega
theorem aLf(a0:aE)(_:aE.ok a0)(a1:aG)(_:aG.ok a1)(a2:List Int)(o2:(a2.length<=maxLen/\a2.length*1<=140737488351232)/\∀a∈a2,(λx=>(Lit.int .u8 x).wf=true) a):FnM Tryz.prog 4 [] [(aE.enc a0),(aG.enc a1),(eL 1 k8 a2)] (eB true) []:=
 aCT (aNM 2000000000000 (by decide) aUi a0 a1 a2 (λx h=>u8_b (o2.2 x h)))
end Go.UK
