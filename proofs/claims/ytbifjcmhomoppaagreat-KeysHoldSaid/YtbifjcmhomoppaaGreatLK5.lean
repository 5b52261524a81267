/- A part of the proof: what the functions of the program compute. -/
import Derived.Test.YtbifjcmhomoppaaGreatRL
import Derived.Test.YtbifjcmhomoppaaGreatHO
import Derived.Test.YtbifjcmhomoppaaGreatJ6
import Derived.Test.YtbifjcmhomoppaaGreatR0
namespace Go.UK
open Go Go.Proofs
set_option maxRecDepth 20000
set_option linter.all false
theorem manOk {m : S_api_Manifest} (h : S_api_Manifest.ok m) : ManT m := by
 obtain ⟨h1, h2, h3, h4, h5, h6, h7, h8⟩ := h
 exact ⟨wfU h1, in64_wf h2, wfW h3, wfV h4, wfW h5, wfW h6, in64_wf h7, in64_wf h8⟩
theorem keysHoldFn (w : S_umbralaw36_Wrapped) (ow : w.ok) (a : S_api_Asset) (oa : a.ok) (l : List S_umbralaw36_Act) (ol : l.length ≤ maxLen ∧ ∀ x ∈ l, S_umbralaw36_Act.ok x) : FnM Tryz.prog 5 [] [w.enc, a.enc, eL 3 S_umbralaw36_Act.enc l] (eB true) [] :=
 umbralaw36_KeysHold_ok (keysHoldT 70000 (by decide) works36 w (wfV ow.1) (manOk ow.2.2.2) a l)
end Go.UK

