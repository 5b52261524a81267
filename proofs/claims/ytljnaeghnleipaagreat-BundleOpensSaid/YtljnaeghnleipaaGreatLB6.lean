/- A part of the proof: what the functions of the program compute. -/
import Derived.Test.YtljnaeghnleipaaGreatJ7
import Derived.Test.YtljnaeghnleipaaGreatGO
import Derived.Test.YtljnaeghnleipaaGreatR0Z
namespace Go.UK
open Go Go.Proofs
set_option maxRecDepth 20000
set_option linter.all false
theorem wfB{x:Int}(h:(Lit.int .u8 x).wf=true):isB x:=by
 simp[Lit.wf,IntKind.min,IntKind.max,IntKind.signed,IntKind.bits] at h;unfold isB;omega
theorem aG9(k:Vector Int 32)(ok:∀a∈k.toList,(Lit.int .u8 a).wf=true)(b:List Int)(ob:b.length<=maxLen/\∀a∈b,(Lit.int .u8 a).wf=true):FnM Tryz.prog 4 [] [eA 32 1 k8 k,eL 1 k8 b] (eB true) []:=
 yB (aHj 80000 (by decide) aPc (key:=k) (λx hx=>wfB (ok x hx)) (b0:=b) (λx hx=>wfB (ob.2 x hx)))
end Go.UK
