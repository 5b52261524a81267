/- A part of the proof: what the functions of the program compute. -/
import Derived.Test.YtbfieohdmihfpaaGreatDoorLib16
import Derived.Test.YtbfieohdmihfpaaGreatDoorRows
import Derived.Lay
import GoSem.ClaimSeven
import Derived.JoinedOf
namespace Go.UK
open Go Go.Proofs
set_option linter.all false
theorem aPO : Tryz.prog.funcs.any Func.goes=false:=by kernel_rfl
end Go.UK
