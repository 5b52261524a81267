/- A part of the proof: what the functions of the program compute. -/
import Derived.Test.YtghnafefpogjjaaGreatJ5
import Derived.Test.YtghnafefpogjjaaGreatGO
import Derived.Test.YtghnafefpogjjaaGreatR0F
namespace Go.UK
open Go Go.Proofs
set_option maxRecDepth 20000
set_option linter.all false
theorem aHY(a0:aG)(_:aG.ok a0)(a1:aI)(_:aI.ok a1):FnM Tryz.prog 5 [] [(aG.enc a0),(aI.enc a1)] (eB true) []:=
 aAV (aIm 2000000000000 (by decide) aSX a0 a1)
end Go.UK
