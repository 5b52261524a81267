/- A part of the proof: what the functions of the program compute. -/
import Derived.Test.YtbfieohdmihfpaaGreatDoorLib16
import Derived.Test.YtbfieohdmihfpaaGreatDoorRows
import Derived.Lay
import GoSem.ClaimSeven
import Derived.JoinedOf
namespace Go.UK
open Go Go.Proofs
set_option linter.all false
theorem aQ1 : aGq Tryz.prog 3 Tryz.f3 Go.Proofs.YtbfieohdmihfpaaGreatDoor.Rows.vaultInnerSpec Go.Proofs.YtbfieohdmihfpaaGreatDoor.Rows.vaultInnerRow=true:=by kernel_rfl
theorem aQZ : aGv Tryz.prog 3 Tryz.f3 Go.Proofs.YtbfieohdmihfpaaGreatDoor.Rows.vaultInnerSpec Go.Proofs.YtbfieohdmihfpaaGreatDoor.Rows.vaultInnerRow=true:=by kernel_rfl
theorem aRf : aGS Tryz.prog 3 Tryz.f3 Go.Proofs.YtbfieohdmihfpaaGreatDoor.Rows.vaultInnerSpec Go.Proofs.YtbfieohdmihfpaaGreatDoor.Rows.vaultInnerRow=true:=by kernel_rfl
theorem aOb : true=Tryz.prog.looks []:=by kernel_rfl
theorem aOa : Tryz.prog.funcNamed "umbra/umbralaw44.VaultInner" = some 3:=by kernel_rfl
end Go.UK
