/- A part of the proof: what the functions of the program compute. -/
import Derived.Test.YtcaadpceoajapaaDT
namespace Go.UK
open Go Go.Proofs
set_option maxRecDepth 20000
set_option maxHeartbeats 4000000
set_option linter.all false



theorem opens_3 : Opens Try.prog 3 j64 (fun x => (Lit.int .i64 x).wf = true) := (opens_int Try.underlying3)

end Go.UK
