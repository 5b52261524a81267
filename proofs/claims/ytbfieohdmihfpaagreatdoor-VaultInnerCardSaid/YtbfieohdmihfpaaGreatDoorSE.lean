/- A part of the proof: what the functions of the program compute. -/
import Derived.Test.YtbfieohdmihfpaaGreatDoorSA
import Derived.Test.YtbfieohdmihfpaaGreatDoorSB
import Derived.Test.YtbfieohdmihfpaaGreatDoorSC
import Derived.Test.YtbfieohdmihfpaaGreatDoorSD
import Derived.Test.YtbfieohdmihfpaaGreatDoorSF
import Derived.Test.YtbfieohdmihfpaaGreatDoorSG
import Derived.Test.YtbfieohdmihfpaaGreatDoorSH
import Derived.Test.YtbfieohdmihfpaaGreatDoorSI
import Derived.Test.YtbfieohdmihfpaaGreatDoorSJ
import Derived.Test.YtbfieohdmihfpaaGreatDoorSK
import Derived.Test.YtbfieohdmihfpaaGreatDoorSL
import Derived.Test.YtbfieohdmihfpaaGreatDoorSM
import Derived.Test.YtbfieohdmihfpaaGreatDoorRows
import Derived.Lay
import GoSem.ClaimSeven
import Derived.JoinedOf
namespace Go.UK
open Go Go.Proofs
set_option linter.all false
theorem aJj : laidOutB Tryz.prog=true:=laid_of sz_d sz_a sz_b sz_e
theorem aPf : aGz Tryz.prog 3 Tryz.f3 Go.Proofs.YtbfieohdmihfpaaGreatDoor.Rows.vaultInnerSpec Go.Proofs.YtbfieohdmihfpaaGreatDoor.Rows.vaultInnerRow=true:=closedA_of aJj sz_m sz_c
end Go.UK
