/- A part of the proof: what the functions of the program compute. -/
import Derived.Test.YtidamaopieegkaaGreatDoorLS8
import Derived.Test.YtidamaopieegkaaGreatDoorLib15
import Derived.Test.YtidamaopieegkaaGreatDoorRows
import Derived.Lay
import GoSem.ClaimSeven
import Derived.JoinedOf
namespace Go.UK
open Go Go.Proofs
set_option linter.all false
theorem aCo : laidOutB Tryz.prog=true:=by kernel_rfl
theorem aEx : xS Tryz.prog 4 Tryz.f4 Go.Proofs.YtidamaopieegkaaGreatDoor.Rows.scriptBackSpec Go.Proofs.YtidamaopieegkaaGreatDoor.Rows.scriptBackRow=true:=by kernel_rfl
theorem aFE : yT Tryz.prog 4 Tryz.f4 Go.Proofs.YtidamaopieegkaaGreatDoor.Rows.scriptBackSpec Go.Proofs.YtidamaopieegkaaGreatDoor.Rows.scriptBackRow=true:=by kernel_rfl
theorem aEi : xA Tryz.prog 4 Tryz.f4 Go.Proofs.YtidamaopieegkaaGreatDoor.Rows.scriptBackSpec Go.Proofs.YtidamaopieegkaaGreatDoor.Rows.scriptBackRow=true:=by kernel_rfl
end Go.UK
