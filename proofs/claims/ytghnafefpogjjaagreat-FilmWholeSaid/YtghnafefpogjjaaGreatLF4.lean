/- A part of the proof: what the functions of the program compute. -/
import Derived.Test.YtghnafefpogjjaaGreatJ4
import Derived.Test.YtghnafefpogjjaaGreatFO
import Derived.Test.YtghnafefpogjjaaGreatR0F
namespace Go.UK
open Go Go.Proofs
set_option maxRecDepth 20000
set_option linter.all false
theorem aKv (a0:aE) (_:aE.ok a0) (a1:aI) (_:aI.ok a1):FnM Tryz.prog 4 [] [(aE.enc a0),(aI.enc a1)] (eB true) []:=
 aBC (aS4 2000000000000 (by decide) aQi a0 a1)
end Go.UK
