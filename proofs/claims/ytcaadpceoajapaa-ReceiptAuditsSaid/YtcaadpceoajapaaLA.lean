/- A part of the proof: what the functions of the program compute. -/
import Derived.Test.YtcaadpceoajapaaLE
import Derived.Test.YtcaadpceoajapaaS15
namespace Go.UK
open Go Go.Proofs
set_option maxRecDepth 20000
set_option linter.all false
theorem recOkA {r : S_api_Receipt} (h : S_api_Receipt.ok r) : RecOK r := by
  obtain ⟨h1, h2, h3, h4, h5, h6, h7⟩ := h
  exact ⟨in64_wf h1, in64_wf h2, in64_wf h3, wfW h4, wfV h5, wfV h6, wfV h7⟩
theorem receiptAuditsFn (c : S_umbralaw37_Chain) (oc : c.ok) (rs : List S_api_Receipt) (ors : rs.length ≤ maxLen ∧ ∀ a ∈ rs, S_api_Receipt.ok a) : FnM Try.prog 17 [] [c.enc, eL 100 S_api_Receipt.enc rs] (eB true) [] :=
  umbralaw37_ReceiptAudits_ok (receiptAuditsT 400 (by decide) (by decide) c (chainOk oc) rs (fun r h => recOkA (ors.2 r h)))
end Go.UK
