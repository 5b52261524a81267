/- A part of the proof: what the functions of the program compute. -/
import Derived.Test.YtljnaeghnleipaaB13
import Derived.KernelRfl
namespace Go.UK
open Go Go.Proofs
set_option maxRecDepth 100000
theorem works16 : p_umbralaw16_works 70000 = some true := by kernel_rfl
end Go.UK

