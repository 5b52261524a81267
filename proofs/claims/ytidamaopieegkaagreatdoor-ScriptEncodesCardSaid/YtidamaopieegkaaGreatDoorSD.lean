/- A part of the proof: what the functions of the program compute. -/
import Derived.Test.YtidamaopieegkaaGreatDoorSC
import Derived.Test.YtidamaopieegkaaGreatDoorLib15
import Derived.Test.YtidamaopieegkaaGreatDoorRows
import Derived.Lay
import GoSem.ClaimSeven
import Derived.JoinedOf
namespace Go.UK
open Go Go.Proofs
set_option linter.all false
theorem aFb : zD Tryz.prog 3 Tryz.f3 Go.Proofs.YtidamaopieegkaaGreatDoor.Rows.scriptEncodesSpec Go.Proofs.YtidamaopieegkaaGreatDoor.Rows.scriptEncodesRow=true:=by kernel_rfl
theorem aEM : yW Tryz.prog 3 Tryz.f3 Go.Proofs.YtidamaopieegkaaGreatDoor.Rows.scriptEncodesSpec Go.Proofs.YtidamaopieegkaaGreatDoor.Rows.scriptEncodesRow=true:=by kernel_rfl
theorem aFM : yF Tryz.prog 3 Tryz.f3 Go.Proofs.YtidamaopieegkaaGreatDoor.Rows.scriptEncodesSpec Go.Proofs.YtidamaopieegkaaGreatDoor.Rows.scriptEncodesRow=true:=by kernel_rfl
theorem aFh : xR Tryz.prog 3 Tryz.f3 Go.Proofs.YtidamaopieegkaaGreatDoor.Rows.scriptEncodesSpec Go.Proofs.YtidamaopieegkaaGreatDoor.Rows.scriptEncodesRow=true:=by kernel_rfl
end Go.UK
