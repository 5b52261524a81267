/- A part of the proof: what the functions of the program compute. -/
import Derived.Test.YtlalbhcgnnbbmaaDoorW3
namespace Go.UK
open Go Go.Proofs
set_option maxRecDepth 20000
theorem works43 : p_umbralaw43_works 400 = some true := by kernel_rfl
end Go.UK
