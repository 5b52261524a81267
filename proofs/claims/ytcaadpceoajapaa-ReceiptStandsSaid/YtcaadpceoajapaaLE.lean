/- A part of the proof: what the functions of the program compute. -/
import Derived.Test.YtcaadpceoajapaaS12
import Derived.Test.YtcaadpceoajapaaCO
namespace Go.UK
open Go Go.Proofs
set_option maxRecDepth 20000
set_option linter.all false
theorem wfB {x : Int} (h : (Lit.int .u8 x).wf = true) : isB x := by
  simp [Lit.wf, IntKind.min, IntKind.max, IntKind.signed, IntKind.bits] at h
  unfold isB; omega
theorem wfW {x : Int} (h : (Lit.int .u32 x).wf = true) : isW x := by
  simp [Lit.wf, IntKind.min, IntKind.max, IntKind.signed, IntKind.bits] at h
  unfold isW; omega
theorem wfV {m : Nat} {v : Vector Int m} (h : ∀ a ∈ v.toList, (Lit.int .u8 a).wf = true) : vbytes v := fun a ha => wfB (h a ha)
theorem entOk {e : S_api_Entry} (h : S_api_Entry.ok e) : EntOK e := by
  obtain ⟨h1, h2, h3, h4, h5⟩ := h
  exact ⟨in64_wf h1, wfW h2, in64_wf h3, in64_wf h4, wfV h5⟩
theorem chainOk {c : S_umbralaw37_Chain} (h : S_umbralaw37_Chain.ok c) : ChainOK c := by
  obtain ⟨h1, h2, h3, h4⟩ := h
  exact ⟨wfV h1, in64_wf h2, fun e he => entOk (h4 e he)⟩
end Go.UK
