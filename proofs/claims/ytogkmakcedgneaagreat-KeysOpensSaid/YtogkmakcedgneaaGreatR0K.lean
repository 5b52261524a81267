/- A part of the proof: what the functions of the program compute. -/
import Derived.Test.YtogkmakcedgneaaGreatAJ2
import Derived.KernelRfl
namespace Go.UK
open Go Go.Proofs
set_option maxRecDepth 20000
set_option linter.all false
theorem aTh : sW 80000=some true:=by kernel_rfl
end Go.UK
