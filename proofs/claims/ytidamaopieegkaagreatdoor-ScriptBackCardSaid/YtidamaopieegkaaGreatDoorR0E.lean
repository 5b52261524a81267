/- A part of the proof: what the functions of the program compute. -/
import Derived.Test.YtidamaopieegkaaGreatDoorAJ2
namespace Go.UK
open Go Go.Proofs
set_option maxRecDepth 100000
theorem aGO : eN 100000=some true:=by kernel_rfl
end Go.UK
