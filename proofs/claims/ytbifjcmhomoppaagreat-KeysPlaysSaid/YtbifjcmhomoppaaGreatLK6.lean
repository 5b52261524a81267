/- A part of the proof: what the functions of the program compute. -/
import Derived.Test.YtbifjcmhomoppaaGreatJ2
import Derived.Test.YtbifjcmhomoppaaGreatPO
import Derived.Test.YtbifjcmhomoppaaGreatR0P
namespace Go.UK
open Go Go.Proofs
set_option maxRecDepth 20000
set_option linter.all false
theorem keysPlaysFn (l : List S_umbralaw36_Act) (ol : l.length ≤ maxLen ∧ ∀ x ∈ l, S_umbralaw36_Act.ok x) : FnM Tryz.prog 6 [] [eL 3 S_umbralaw36_Act.enc l] (eB true) [] :=
 umbralaw36_KeysPlays_ok (keysPlaysT 70000 (by decide) works36 l)
end Go.UK

