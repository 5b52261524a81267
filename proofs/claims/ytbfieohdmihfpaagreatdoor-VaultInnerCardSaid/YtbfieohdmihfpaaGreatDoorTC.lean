/- A part of the proof: what the functions of the program compute. -/
import Derived.Test.YtbfieohdmihfpaaGreatDoorRows
import Derived.LaidByTextLater
import Derived.SevenTiedAt
namespace Go.UK
open Go Go.Proofs Go.Proofs.YtbfieohdmihfpaaGreatDoor
set_option linter.all false
theorem tie_c : Tryz.prog.worded rootWordLater=true:=by kernel_rfl
end Go.UK
