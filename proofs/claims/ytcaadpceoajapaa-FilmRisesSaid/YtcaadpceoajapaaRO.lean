/- A part of the proof: what the functions of the program compute. -/
import Derived.Test.YtcaadpceoajapaaRT
namespace Go.UK
open Go Go.Proofs
set_option maxRecDepth 20000
set_option linter.all false



theorem opens_47 : Opens Try.prog 47 j64 (fun x => (Lit.int .i64 x).wf = true) := (opens_int Try.underlying47)

end Go.UK
