/- The own layer: abstract values, their memory, and the steps of the model over them: for any program. -/
import Derived.Test.YtogkmakcedgneaaGreatLib13
import Derived.Shelf.RegionOpenPlain
import Derived.Lib.Strings
import Derived.Lib.Slices
import Derived.Lib.Walk
import Derived.Lib.Builder
import Derived.Lib.AppendStr
import Derived.Lib.UnsafeStr
import Derived.Lib.ItoaLen
import Derived.WalkKit
import Derived.Laws.Externs
import Derived.Laws.BitsLemmas
namespace Go.UK
open Go
set_option linter.all false
variable [bU]
section
variable {P:Program} {n:Fr}
end
section
variable {P:Program} {T:TypeId→Option TI} {im:Nat→Bool} {n:Fr} {Q:Exit→ASt→Prop} {p:Pt}
end
end Go.UK

namespace Go.UK
open Go Go.RowKit
set_option linter.all false
variable [bU]
section
variable {P:Program} {T:TypeId→Option TI} {n:Fr}
end
end Go.UK

namespace Go.UK
open Go Go.Proofs Go.Sort Go.RowKit
set_option linter.all false
variable [bU]
end Go.UK

namespace Go.UK
open Go
set_option linter.all false
variable [bU]
section
variable {P:Program} {T:TypeId→Option TI} {im:Nat→Bool} {n:Fr} {Q:Exit→ASt→Prop} {p:Pt}
def RetC(n:Fr)(T:TypeId->Option TI)(lo:Nat)(rs:List ResultVar)(ret:AV)(H':List Box)(e:Exit)(st:ASt):Prop:=
 ∃st',(∀{ctx:Mem} {a:Act} {w:World},Sat n ctx st a w->Sat n ctx st' a w)/\aFc T lo rs ret H' e st'
instance retTo_C {lo:Nat} {rs:List ResultVar} {ret:AV} {H':List Box}:aFS (RetC n T lo rs ret H') (RetC n T lo rs ret H'):=⟨λ_ h=>h⟩
end
end Go.UK

namespace Go.UK
open Go
set_option linter.all false
variable [bU]
section
variable {P:Program} {T:TypeId→Option TI} {n:Fr}
end
end Go.UK

