/- A part of the proof: what the functions of the program compute. -/
import Derived.Test.YtbfieohdmihfpaaGreatDoorAJ2
import Derived.KernelRfl
namespace Go.UK
open Go Go.Proofs
set_option maxRecDepth 100000
set_option linter.all false
theorem aTV : qI 80000=some true:=by kernel_rfl
end Go.UK
