/- A part of the proof: what the functions of the program compute. -/
import Derived.Test.YtlalbhcgnnbbmaaDoorX4
import Derived.Test.YtlalbhcgnnbbmaaDoorWO
namespace Go.UK
open Go Go.Proofs
set_option linter.all false
theorem wfB {x : Int} (h : (Lit.int .u8 x).wf = true) : isB x := by
  simp [Lit.wf, IntKind.min, IntKind.max, show IntKind.u8.signed = false from rfl, show IntKind.u8.bits = 8 from rfl] at h
  unfold isB
  omega
theorem wordsBytesFn (b : List Int) (ob : b.length ≤ maxLen ∧ ∀ a ∈ b, (Lit.int .u8 a).wf = true) (s : ByteArray) (os : s.size ≤ maxLen) (t : ByteArray) (ot : t.size ≤ maxLen) : FnM Tryd.prog 5 [] [eL 1 k8 b, eS s, eS t] (eB true) [] := umbralaw43_WordsBytes_ok (wordsBytesT b (fun a ha => wfB (ob.2 a ha)) s t)
end Go.UK
