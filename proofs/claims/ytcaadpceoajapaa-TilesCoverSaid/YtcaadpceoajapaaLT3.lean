/- A part of the proof: what the functions of the program compute. -/
import Derived.Test.YtcaadpceoajapaaT1
import Derived.Test.YtcaadpceoajapaaDO
namespace Go.UK
open Go Go.Proofs
set_option linter.all false
theorem tilesCoverFn (a : Int) (oa : (Lit.int .i64 a).wf = true) (b : Int) (ob : (Lit.int .i64 b).wf = true) (c : Int) (oc : (Lit.int .i64 c).wf = true) : FnM Try.prog 3 [] [j64 a, j64 b, j64 c] (eB true) [] :=
  umbralaw40_TilesCover_ok (tilesCoverT 10001 (by decide) a b c)
end Go.UK
