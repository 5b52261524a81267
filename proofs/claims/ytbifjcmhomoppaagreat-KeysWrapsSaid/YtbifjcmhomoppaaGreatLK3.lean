/- A part of the proof: what the functions of the program compute. -/
import Derived.Test.YtbifjcmhomoppaaGreatJ8
import Derived.Test.YtbifjcmhomoppaaGreatWO
import Derived.Test.YtbifjcmhomoppaaGreatR0K
namespace Go.UK
open Go Go.Proofs
set_option maxRecDepth 20000
set_option linter.all false
theorem wfB{x:Int}(h:(Lit.int .u8 x).wf=true):isB x:=by
 simp[Lit.wf,IntKind.min,IntKind.max,IntKind.signed,IntKind.bits] at h;unfold isB;omega
theorem wfW{x:Int}(h:(Lit.int .u32 x).wf=true):isW x:=by
 simp[Lit.wf,IntKind.min,IntKind.max,IntKind.signed,IntKind.bits] at h;unfold isW;omega
theorem wfU{x:Int}(h:(Lit.int .u64 x).wf=true):isU x:=by
 simp[Lit.wf,IntKind.min,IntKind.max,IntKind.signed,IntKind.bits] at h;unfold isU;omega
theorem wfV{m:Nat}{v:Vector Int m}(h:∀a∈v.toList,(Lit.int .u8 a).wf=true):eH v:=λa ha=>wfB (h a ha)
theorem manOk{m:aE}(h:aE.ok m):aHB m:=by
 obtain⟨h1,h2,h3,h4,h5,h6,h7,h8⟩:=h;exact⟨wfU h1,aJe h2,wfW h3,wfV h4,wfW h5,wfW h6,aJe h7,aJe h8⟩
theorem aKx(w:bU)(ow:w.ok)(a:aF)(_:a.ok):FnM Tryz.prog 3 [] [w.enc,a.enc] (eB true) []:=
 aBG (aMI 80000 (by decide) aRJ w (wfV ow.1) (manOk ow.2.2.2) a)
end Go.UK
