/- A part of the proof: what the functions of the program compute. -/
import Derived.Test.YtidamaopieegkaaGreatDoorSD
import Derived.Test.YtidamaopieegkaaGreatDoorLib15
import Derived.Test.YtidamaopieegkaaGreatDoorRows
import Derived.Lay
import GoSem.ClaimSeven
import Derived.JoinedOf
namespace Go.UK
open Go Go.Proofs
set_option linter.all false
theorem aE0 : xM Tryz.prog 3 Tryz.f3 Go.Proofs.YtidamaopieegkaaGreatDoor.Rows.scriptEncodesSpec Go.Proofs.YtidamaopieegkaaGreatDoor.Rows.scriptEncodesRow=true:=by kernel_rfl
theorem aDm : Tryz.prog.funcs.any Func.goes=false:=by kernel_rfl
theorem aD8 : true=Tryz.prog.looks []:=by kernel_rfl
theorem aDS : Tryz.prog.funcNamed "umbra/umbralaw34.ScriptEncodes" = some 3:=by kernel_rfl
end Go.UK
