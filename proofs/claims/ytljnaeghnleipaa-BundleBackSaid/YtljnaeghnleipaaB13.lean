/- A part of the proof: what the functions of the program compute. -/
import Derived.Test.YtljnaeghnleipaaB12
namespace Go.UK
open Go Go.Proofs
set_option maxRecDepth 20000
set_option maxHeartbeats 4000000
set_option linter.all false

attribute [local irreducible] owp awl aw FnM NatFn opS Stab TOK Big
end Go.UK

