/- The own layer: abstract values, their memory, and the steps of the model over them: for any program. -/
import Derived.Test.YtbifjcmhomoppaaGreatLib13
namespace Go.UK
open Go
set_option linter.all false
variable [cB]
section
variable {P:Program} {n:Fr}
end
section
variable {P:Program} {T:TypeId→Option TI} {im:Nat→Bool} {n:Fr} {Q:Exit→ASt→Prop} {p:Pt}
end
end Go.UK

namespace Go.UK
open Go Go.RowKit
set_option linter.all false
variable [cB]
section
variable {P:Program} {T:TypeId→Option TI} {n:Fr}
end
end Go.UK

