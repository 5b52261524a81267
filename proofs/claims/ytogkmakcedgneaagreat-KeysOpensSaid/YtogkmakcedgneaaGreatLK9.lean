/- A part of the proof: what the functions of the program compute. -/
import Derived.Test.YtogkmakcedgneaaGreatJ7
import Derived.Test.YtogkmakcedgneaaGreatWO
import Derived.Test.YtogkmakcedgneaaGreatR0K
namespace Go.UK
open Go Go.Proofs
set_option maxRecDepth 20000
set_option linter.all false
theorem wfB{x:Int}(h:(Lit.int .u8 x).wf=true):isB x:=by
 simp[Lit.wf,IntKind.min,IntKind.max,IntKind.signed,IntKind.bits] at h;unfold isB;omega
theorem aL5(v:Vector Int 32)(ov:∀a∈v.toList,(Lit.int .u8 a).wf=true)(l:List bF){A B:Prop}(_:A)(b:List Int)(ob:B/\∀a∈b,(Lit.int .u8 a).wf=true):FnM Tryz.prog 3 [] [eA 32 1 k8 v,eL 3 bF.enc l,eL 1 k8 b] (eB true) []:=
 aBH (aNY 80000 (by decide) aTh (v:=v) (λx hx=>wfB (ov x hx)) l (b0:=b) (λx hx=>wfB (ob.2 x hx)))
end Go.UK
