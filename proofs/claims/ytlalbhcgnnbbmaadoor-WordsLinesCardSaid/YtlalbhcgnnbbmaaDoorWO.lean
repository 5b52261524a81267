/- A part of the proof: what the functions of the program compute. -/
import Derived.Test.YtlalbhcgnnbbmaaDoorWT
namespace Go.UK
open Go Go.Proofs
set_option maxRecDepth 20000
set_option maxHeartbeats 4000000
set_option linter.all false



theorem opens_9 : Opens Tryd.prog 9 eS (fun s => s.size ≤ maxLen) := (opens_str Tryd.underlying9)

end Go.UK
