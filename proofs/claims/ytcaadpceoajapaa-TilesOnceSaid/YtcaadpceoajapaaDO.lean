/- A part of the proof: what the functions of the program compute. -/
import Derived.Test.YtcaadpceoajapaaDT
namespace Go.UK
open Go Go.Proofs
set_option maxRecDepth 20000
set_option maxHeartbeats 4000000
set_option linter.all false



theorem opens_5 : Opens Try.prog 5 k8 (fun x => (Lit.int .u8 x).wf = true) := (opens_int Try.underlying5)

end Go.UK
