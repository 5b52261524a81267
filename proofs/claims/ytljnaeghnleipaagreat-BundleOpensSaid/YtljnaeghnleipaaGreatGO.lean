/- A part of the proof: what the functions of the program compute. -/
import Derived.Test.YtljnaeghnleipaaGreatGT
namespace Go.UK
open Go Go.Proofs
set_option maxRecDepth 20000
set_option maxHeartbeats 40000000
set_option linter.all false
theorem aNu : aEd Tryz.prog 22 (eA 32 1 k8) (λ(v:(Vector Int 32))=>∀a∈v.toList,(λx=>(Lit.int .u8 x).wf=true) a):=(aI0 (n:=32) (k:=1) (m:=32) Tryz.underlying22 (by kernel_rfl) (by kernel_rfl) rfl (λ_=>rfl) (aHH Tryz.underlying5))
theorem aOa : aEd Tryz.prog 47 (eL 1 k8) (λ(l:(List Int))=>l.length<=maxLen/\∀a∈l,(λx=>(Lit.int .u8 x).wf=true) a):=(aJA (k:=1) Tryz.underlying47 (by kernel_rfl) (by decide) (λ_=>rfl) (aHH Tryz.underlying5))
end Go.UK
