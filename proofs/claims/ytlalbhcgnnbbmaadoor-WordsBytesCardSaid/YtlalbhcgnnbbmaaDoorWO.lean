/- A part of the proof: what the functions of the program compute. -/
import Derived.Test.YtlalbhcgnnbbmaaDoorWT
namespace Go.UK
open Go Go.Proofs
set_option maxRecDepth 20000
set_option maxHeartbeats 4000000
set_option linter.all false



theorem opens_9 : Opens Tryd.prog 9 eS (fun s => s.size ≤ maxLen) := (opens_str Tryd.underlying9)
theorem opens_24 : Opens Tryd.prog 24 (eL 1 k8) (fun (l : (List Int)) => l.length ≤ maxLen ∧ ∀ a ∈ l, (fun x => (Lit.int .u8 x).wf = true) a) := (opens_slice (k := 1) Tryd.underlying24 (by kernel_rfl) (by decide) (fun _ => rfl) (opens_int Tryd.underlying5))

end Go.UK
