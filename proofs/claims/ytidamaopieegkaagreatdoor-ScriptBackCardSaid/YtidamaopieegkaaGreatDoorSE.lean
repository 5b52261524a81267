/- A part of the proof: what the functions of the program compute. -/
import Derived.Test.YtidamaopieegkaaGreatDoorSD
import Derived.Test.YtidamaopieegkaaGreatDoorLib15
import Derived.Test.YtidamaopieegkaaGreatDoorRows
import Derived.Lay
import GoSem.ClaimSeven
import Derived.JoinedOf
namespace Go.UK
open Go Go.Proofs
set_option linter.all false
theorem aFL : yM Tryz.prog 4 Tryz.f4 Go.Proofs.YtidamaopieegkaaGreatDoor.Rows.scriptBackSpec Go.Proofs.YtidamaopieegkaaGreatDoor.Rows.scriptBackRow=true:=by kernel_rfl
theorem aDi : Tryz.prog.funcs.any Func.goes=false:=by kernel_rfl
theorem aDp : true=Tryz.prog.looks []:=by kernel_rfl
theorem aD4 : Tryz.prog.funcNamed "umbra/umbralaw34.ScriptBack" = some 4:=by kernel_rfl
end Go.UK
