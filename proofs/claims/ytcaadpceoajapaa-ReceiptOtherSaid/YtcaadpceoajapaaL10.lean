/- A part of the proof: what the functions of the program compute. -/
import Derived.Test.YtcaadpceoajapaaLE
namespace Go.UK
open Go Go.Proofs
set_option maxRecDepth 20000
set_option linter.all false
theorem receiptOtherFn (c : S_umbralaw37_Chain) (oc : c.ok) (x : Int) (ox : (Lit.int .i64 x).wf = true) (w : Int) (ow : (Lit.int .u8 w).wf = true) : FnM Try.prog 10 [] [c.enc, j64 x, k8 w] (eB true) [] :=
  umbralaw37_ReceiptOther_ok (receiptOtherT 400 (by decide) c (chainOk oc) x w (wfB ow))
end Go.UK
