/- A part of the proof: what the functions of the program compute. -/
import Derived.Test.YtcaadpceoajapaaLE
namespace Go.UK
open Go Go.Proofs
set_option maxRecDepth 20000
set_option linter.all false
theorem recOk {r : S_api_Receipt} (h : S_api_Receipt.ok r) : RecOK r := by
  obtain ⟨h1, h2, h3, h4, h5, h6, h7⟩ := h
  exact ⟨in64_wf h1, in64_wf h2, in64_wf h3, wfW h4, wfV h5, wfV h6, wfV h7⟩
theorem receiptIssuesFn (c : S_umbralaw37_Chain) (oc : c.ok) (x : Int) (ox : (Lit.int .i64 x).wf = true) (r : S_api_Receipt) (or : r.ok) : FnM Try.prog 9 [] [c.enc, j64 x, r.enc] (eB true) [] :=
  umbralaw37_ReceiptIssues_ok (receiptIssuesT 400 (by decide) c (chainOk oc) x r (recOk or))
end Go.UK
