/- A part of the proof: what the functions of the program compute. -/
import Derived.Test.YtfndgielkmppbaaDoorAJ2
import Derived.KernelRfl
namespace Go.UK
open Go Go.Proofs
set_option maxRecDepth 100000
theorem aEZ : cU 100000=some true:=by kernel_rfl
end Go.UK
