/- A part of the proof: what the functions of the program compute. -/
import Derived.Test.YtidamaopieegkaaGreatDoorSC
import Derived.Test.YtidamaopieegkaaGreatDoorLib15
import Derived.Test.YtidamaopieegkaaGreatDoorRows
import Derived.Lay
import GoSem.ClaimSeven
import Derived.JoinedOf
namespace Go.UK
open Go Go.Proofs
set_option linter.all false
theorem aE2 : xB Tryz.prog 4 Tryz.f4 Go.Proofs.YtidamaopieegkaaGreatDoor.Rows.scriptBackSpec Go.Proofs.YtidamaopieegkaaGreatDoor.Rows.scriptBackRow=true:=by kernel_rfl
theorem aEq : yP Tryz.prog 4 Tryz.f4 Go.Proofs.YtidamaopieegkaaGreatDoor.Rows.scriptBackSpec Go.Proofs.YtidamaopieegkaaGreatDoor.Rows.scriptBackRow=true:=by kernel_rfl
theorem aFT : xZ Tryz.prog 4 Tryz.f4 Go.Proofs.YtidamaopieegkaaGreatDoor.Rows.scriptBackSpec Go.Proofs.YtidamaopieegkaaGreatDoor.Rows.scriptBackRow=true:=by kernel_rfl
theorem aE3 : xU Tryz.prog 4 Tryz.f4 Go.Proofs.YtidamaopieegkaaGreatDoor.Rows.scriptBackSpec Go.Proofs.YtidamaopieegkaaGreatDoor.Rows.scriptBackRow=true:=by kernel_rfl
end Go.UK
