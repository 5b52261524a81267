/- The own layer: abstract values, their memory, and the steps of the model over them: for any program. -/
import Derived.Test.YtidamaopieegkaaGreatDoorLib14
namespace Go.UK
open Go
set_option linter.all false
variable [bJ]
section
variable {P:Program} {T:TypeId→Option TI} {n:Fr}
section
variable {o:Oper} {need:Env} {H:List Box} {x:AV} {id:Nat}
end
end
end Go.UK

