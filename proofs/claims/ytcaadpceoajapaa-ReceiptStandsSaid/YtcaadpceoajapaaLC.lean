/- A part of the proof: what the functions of the program compute. -/
import Derived.Test.YtcaadpceoajapaaLE
import Derived.Test.YtcaadpceoajapaaS17
namespace Go.UK
open Go Go.Proofs
set_option maxRecDepth 20000
set_option linter.all false
theorem receiptStandsFn (c : S_umbralaw37_Chain) (oc : c.ok) (more : List S_api_Entry) (om : more.length ≤ maxLen ∧ ∀ a ∈ more, S_api_Entry.ok a) : FnM Try.prog 18 [] [c.enc, eL 36 S_api_Entry.enc more] (eB true) [] :=
  umbralaw37_ReceiptStands_ok (receiptStandsT 400 (by decide) c (chainOk oc) more (fun r h => entOk (om.2 r h)))
end Go.UK
