/- A part of the proof: what the functions of the program compute. -/
import Derived.Test.YtbfieohdmihfpaaGreatDoorLib16
import Derived.Test.YtbfieohdmihfpaaGreatDoorRows
import Derived.Lay
import GoSem.ClaimSeven
import Derived.JoinedOf
namespace Go.UK
open Go Go.Proofs
set_option linter.all false
theorem aR4 : aHb Tryz.prog 3 Tryz.f3 Go.Proofs.YtbfieohdmihfpaaGreatDoor.Rows.vaultInnerSpec Go.Proofs.YtbfieohdmihfpaaGreatDoor.Rows.vaultInnerRow=true:=by kernel_rfl
end Go.UK
