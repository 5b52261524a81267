/- A part of the proof: what the functions of the program compute. -/
import Derived.Test.YtljnaeghnleipaaBT
namespace Go.UK
open Go Go.Proofs
set_option maxRecDepth 20000
set_option maxHeartbeats 4000000
set_option linter.all false



theorem opens_22 : Opens Try.prog 22 (eA 32 1 k8) (fun (v : (Vector Int 32)) => ∀ a ∈ v.toList, (fun x => (Lit.int .u8 x).wf = true) a) := (opens_array (n := 32) (k := 1) (m := 32) Try.underlying22 (by kernel_rfl) (by kernel_rfl) rfl (fun _ => rfl) (opens_int Try.underlying5))
theorem opens_47 : Opens Try.prog 47 (eL 1 k8) (fun (l : (List Int)) => l.length ≤ maxLen ∧ ∀ a ∈ l, (fun x => (Lit.int .u8 x).wf = true) a) := (opens_slice (k := 1) Try.underlying47 (by kernel_rfl) (by decide) (fun _ => rfl) (opens_int Try.underlying5))

end Go.UK

