/- A part of the proof: what the functions of the program compute. -/
import Derived.Test.YtlalbhcgnnbbmaaDoorX3
import Derived.Test.YtlalbhcgnnbbmaaDoorWO
namespace Go.UK
open Go Go.Proofs
set_option linter.all false
theorem wfB {x : Int} (h : (Lit.int .u8 x).wf = true) : isB x := by
  simp [Lit.wf, IntKind.min, IntKind.max, show IntKind.u8.signed = false from rfl, show IntKind.u8.bits = 8 from rfl] at h
  unfold isB
  omega
theorem wordsHexFn (b : List Int) (ob : b.length ≤ maxLen ∧ ∀ a ∈ b, (Lit.int .u8 a).wf = true) (s : ByteArray) (os : s.size ≤ maxLen) : FnM Tryd.prog 4 [] [eL 1 k8 b, eS s] (eB true) [] := umbralaw43_WordsHex_ok (wordsHexT b (fun a ha => wfB (ob.2 a ha)) s)
end Go.UK
