/- A part of the proof: what the functions of the program compute. -/
import Derived.Test.YtbfieohdmihfpaaGreatDoorLib16
import Derived.Test.YtbfieohdmihfpaaGreatDoorRows
import Derived.Lay
import GoSem.ClaimSeven
import Derived.JoinedOf
namespace Go.UK
open Go Go.Proofs
set_option linter.all false
theorem sz_c : (Go.Proofs.YtbfieohdmihfpaaGreatDoor.Rows.vaultInnerRow.wf (OpenSpec.ofChange Go.Proofs.YtbfieohdmihfpaaGreatDoor.Rows.vaultInnerSpec) && (Tryz.f3.params.all (Tryz.prog.readableRec ·) && (namedTie Tryz.prog Go.Proofs.YtbfieohdmihfpaaGreatDoor.Rows.vaultInnerRow.named Go.Proofs.YtbfieohdmihfpaaGreatDoor.Rows.vaultInnerSpec.vars && ((Go.Proofs.YtbfieohdmihfpaaGreatDoor.Rows.vaultInnerRow.stops == []) && ((Tryz.prog.stops == []) && ((Go.Proofs.YtbfieohdmihfpaaGreatDoor.Rows.vaultInnerRow.knobs == []) && (Tryz.prog.stopKnobs == []))))))) = true := by kernel_rfl
end Go.UK
