/- A part of the proof: what the functions of the program compute. -/
import Derived.Test.YtghnafefpogjjaaGreatJ4
import Derived.Test.YtghnafefpogjjaaGreatEO
import Derived.Test.YtghnafefpogjjaaGreatR0F
namespace Go.UK
open Go Go.Proofs
set_option maxRecDepth 20000
set_option linter.all false
theorem aLP (a0:aF) (_:aF.ok a0) (a1:aI) (_:aI.ok a1):FnM Tryz.prog 6 [] [(aF.enc a0),(aI.enc a1)] (eB true) []:=
 aBL (aSg 2000000000000 (by decide) aQm a0 a1)
end Go.UK
