/- A part of the proof: what the functions of the program compute. -/
import Derived.Test.YtcaadpceoajapaaS14
import Derived.Test.YtcaadpceoajapaaLE0
import Derived.Test.YtcaadpceoajapaaCO
namespace Go.UK
open Go Go.Proofs
set_option maxRecDepth 20000
set_option linter.all false
theorem recOk {r : S_api_Receipt} (h : S_api_Receipt.ok r) : RecOK r := by
  obtain ⟨h1, h2, h3, h4, h5, h6, h7⟩ := h
  exact ⟨in64_wf h1, in64_wf h2, in64_wf h3, wfW h4, wfV h5, wfV h6, wfV h7⟩
theorem receiptBytesFn (r : S_api_Receipt) (or : r.ok) (b : List Int) (ob : b.length ≤ maxLen ∧ ∀ a ∈ b, (Lit.int .u8 a).wf = true) : FnM Try.prog 12 [] [r.enc, eL 1 k8 b] (eB true) [] :=
  umbralaw37_ReceiptBytes_ok (receiptBytesT 500 (by decide) r (recOk or) b (fun a ha => wfB (ob.2 a ha)))
end Go.UK
