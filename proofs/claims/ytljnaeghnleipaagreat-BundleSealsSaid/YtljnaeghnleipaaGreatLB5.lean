/- A part of the proof: what the functions of the program compute. -/
import Derived.Test.YtljnaeghnleipaaGreatJ7
import Derived.Test.YtljnaeghnleipaaGreatBO
import Derived.Test.YtljnaeghnleipaaGreatR0Z
namespace Go.UK
open Go Go.Proofs
set_option maxRecDepth 20000
set_option linter.all false
theorem wfB{x:Int}(h:(Lit.int .u8 x).wf=true):isB x:=by
 simp[Lit.wf,IntKind.min,IntKind.max,IntKind.signed,IntKind.bits] at h;unfold isB;omega
theorem wfW{x:Int}(h:(Lit.int .u32 x).wf=true):isW x:=by
 simp[Lit.wf,IntKind.min,IntKind.max,IntKind.signed,IntKind.bits] at h;unfold isW;omega
theorem wfU{x:Int}(h:(Lit.int .u64 x).wf=true):isU x:=by
 simp[Lit.wf,IntKind.min,IntKind.max,IntKind.signed,IntKind.bits] at h;unfold isU;omega
theorem wfV{m:Nat}{v:Vector Int m}(h:∀a∈v.toList,(Lit.int .u8 a).wf=true):jP v:=λa ha=>wfB (h a ha)
theorem manOk{m:aD}(h:aD.ok m):aF7 m:=by
 obtain⟨h1,h2,h3,h4,h5,h6,h7,h8⟩:=h;exact⟨wfU h1,aEQ h2,wfW h3,wfV h4,wfW h5,wfW h6,aEQ h7,aEQ h8⟩
theorem aGC(s:bU)(os:s.ok)(a:aE)(_:a.ok)(n:Int)(on:(Lit.int .i64 n).wf=true):FnM Tryz.prog 3 [] [s.enc,a.enc,j64 n] (eB true) []:=by
 obtain⟨h1,h2,h3⟩:=os;exact wS (aHE 80000 (by decide) aOI s a n (wfV h1) (wfV h2) (manOk h3) (aEQ on))
end Go.UK
