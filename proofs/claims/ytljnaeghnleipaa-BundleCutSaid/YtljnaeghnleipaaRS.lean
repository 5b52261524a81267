/- A part of the proof: what the functions of the program compute. -/
import Derived.Test.YtljnaeghnleipaaRD
import Derived.Test.YtljnaeghnleipaaBO
import Derived.Test.YtljnaeghnleipaaR0
namespace Go.UK
open Go Go.Proofs
set_option maxRecDepth 20000
set_option linter.all false
theorem manOk {m : S_api_Manifest} (h : S_api_Manifest.ok m) : ManT m := by
 obtain ⟨h1, h2, h3, h4, h5, h6, h7, h8⟩ := h
 exact ⟨wfU h1, in64_wf h2, wfW h3, wfV h4, wfW h5, wfW h6, in64_wf h7, in64_wf h8⟩
theorem sealedOk {s : S_umbralaw16_Sealed} (h : S_umbralaw16_Sealed.ok s) : vbytes s.gBase ∧ ManT s.gM := by
 obtain ⟨h1, h2, h3⟩ := h
 exact ⟨wfV h2, manOk h3⟩
end Go.UK

