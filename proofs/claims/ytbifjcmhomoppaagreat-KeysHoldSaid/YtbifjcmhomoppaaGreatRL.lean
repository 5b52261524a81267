/- A part of the proof: what the functions of the program compute. -/
import Derived.Test.YtbifjcmhomoppaaGreatJ6
namespace Go.UK
open Go Go.Proofs
set_option maxRecDepth 20000
set_option linter.all false
theorem wfB {x : Int} (h : (Lit.int .u8 x).wf = true) : isB x := by
 simp [Lit.wf, IntKind.min, IntKind.max, IntKind.signed, IntKind.bits] at h
 unfold isB; omega
theorem wfW {x : Int} (h : (Lit.int .u32 x).wf = true) : isW x := by
 simp [Lit.wf, IntKind.min, IntKind.max, IntKind.signed, IntKind.bits] at h
 unfold isW; omega
theorem wfU {x : Int} (h : (Lit.int .u64 x).wf = true) : isU x := by
 simp [Lit.wf, IntKind.min, IntKind.max, IntKind.signed, IntKind.bits] at h
 unfold isU; omega
theorem wfV {m : Nat} {v : Vector Int m} (h : ∀ a ∈ v.toList, (Lit.int .u8 a).wf = true) : vbytes v := fun a ha => wfB (h a ha)
end Go.UK

