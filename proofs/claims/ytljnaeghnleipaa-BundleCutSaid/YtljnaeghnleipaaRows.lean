/-
  No cell of these rows narrows 'for every input' (looked for: loops, veiled, ifaces, maps, wideKeys, modest, calm, conditions, laid).
  DERIVED. THE GIVEN ROWS OF THIS SEAT. 4 by the template 'for every input the law returns true; each argument reads behind the call as it read before'; 0 by the template 'total and deterministic' (their statements: YtljnaeghnleipaaTotals.lean).
  GIVEN WITH THE SEED: the statements are not yours to turn. If you find one false, say at which input.
  Laid BY PROGRAM, IN A SANDBOX (cutbox-rows.mjs): the forced cells as the released guide's own fill.sh prints them over the translation ed9aa8ea9573142c… (all of the seat's roots in one cut). By AI agents, Wed Nov 11 2026. No macro, syntax, notation, axiom, sorry.
-/
import Derived.Test.YtljnaeghnleipaaChecked
import GoSem.Claim
import GoSem.ClaimJoined
import GoSem.ClaimMapViews
import Derived.JoinedTies
import Derived.KernelRfl
namespace Go.Proofs.Ytljnaeghnleipaa
/- THE CELL 'sum', in the pinned program and in every row, IS THE sha256 OF THE DUMP (.gsa) THAT YtljnaeghnleipaaProg.lean LOADS. Nothing in Lean hashes anything: it is a label: what it is worth is what the hold of that sum in a sandbox is worth. -/
noncomputable def Try.pinned : Pinned := { name := "ytljnaeghnleipaa", sum := "ed9aa8ea9573142c7f1f369455b66b397e30cf75b9b81c59eed90977273786b0", checked := Try.checked }
namespace Rows
def none {H : Type} : Left H := { results := [], args := [] }

/-- 'umbralaw16.BundleBack': WHATEVER THE INPUT: true; the input reads as it did. -/
def bundleBackSpec : ChangeSpec := { name := "bundleBack", fn := fun _ => fun
  | [d1, d2] => { results := [.lit (.bool true)], args := [d1, d2] }
  | _ => none }
def bundleBackRow : OpenClaim := { program := "ytljnaeghnleipaa", sum := "ed9aa8ea9573142c7f1f369455b66b397e30cf75b9b81c59eed90977273786b0", func := "umbra/umbralaw16.BundleBack", spec := "bundleBack", inPlace := ["math/bits.Add64"], unfollowed := true, recurses := true, apart := false }
def BundleBackSaid : Prop := bundleBackRow.holds Try.pinned (OpenSpec.ofChange bundleBackSpec)

/-- ITS FALSE NEIGHBOUR: 'it returns false'. Refute it at one input. -/
def bundleBackWrong : ChangeSpec := { name := "bundleBack", fn := fun _ => fun
  | [d1, d2] => { results := [.lit (.bool false)], args := [d1, d2] }
  | _ => none }
def BundleBackWrongFalsely : Prop := bundleBackRow.holds Try.pinned (OpenSpec.ofChange bundleBackWrong)

/-- 'umbralaw16.BundleJust': WHATEVER THE INPUT: true; the input reads as it did. -/
def bundleJustSpec : ChangeSpec := { name := "bundleJust", fn := fun _ => fun
  | [d1, d2] => { results := [.lit (.bool true)], args := [d1, d2] }
  | _ => none }
def bundleJustRow : OpenClaim := { program := "ytljnaeghnleipaa", sum := "ed9aa8ea9573142c7f1f369455b66b397e30cf75b9b81c59eed90977273786b0", func := "umbra/umbralaw16.BundleJust", spec := "bundleJust", inPlace := ["math/bits.Add64"], unfollowed := true, recurses := true, apart := false }
def BundleJustSaid : Prop := bundleJustRow.holds Try.pinned (OpenSpec.ofChange bundleJustSpec)

/-- ITS FALSE NEIGHBOUR: 'it returns false'. Refute it at one input. -/
def bundleJustWrong : ChangeSpec := { name := "bundleJust", fn := fun _ => fun
  | [d1, d2] => { results := [.lit (.bool false)], args := [d1, d2] }
  | _ => none }
def BundleJustWrongFalsely : Prop := bundleJustRow.holds Try.pinned (OpenSpec.ofChange bundleJustWrong)

/-- 'umbralaw16.BundleParts': WHATEVER THE INPUT: true; the input reads as it did. -/
def bundlePartsSpec : ChangeSpec := { name := "bundleParts", fn := fun _ => fun
  | [d1, d2] => { results := [.lit (.bool true)], args := [d1, d2] }
  | _ => none }
def bundlePartsRow : OpenClaim := { program := "ytljnaeghnleipaa", sum := "ed9aa8ea9573142c7f1f369455b66b397e30cf75b9b81c59eed90977273786b0", func := "umbra/umbralaw16.BundleParts", spec := "bundleParts", inPlace := ["math/bits.Add64"], unfollowed := true, recurses := true, apart := false }
def BundlePartsSaid : Prop := bundlePartsRow.holds Try.pinned (OpenSpec.ofChange bundlePartsSpec)

/-- ITS FALSE NEIGHBOUR: 'it returns false'. Refute it at one input. -/
def bundlePartsWrong : ChangeSpec := { name := "bundleParts", fn := fun _ => fun
  | [d1, d2] => { results := [.lit (.bool false)], args := [d1, d2] }
  | _ => none }
def BundlePartsWrongFalsely : Prop := bundlePartsRow.holds Try.pinned (OpenSpec.ofChange bundlePartsWrong)

/-- 'umbralaw16.BundleCut': WHATEVER THE INPUT: true; the input reads as it did. -/
def bundleCutSpec : ChangeSpec := { name := "bundleCut", fn := fun _ => fun
  | [d1, d2, d3] => { results := [.lit (.bool true)], args := [d1, d2, d3] }
  | _ => none }
def bundleCutRow : OpenClaim := { program := "ytljnaeghnleipaa", sum := "ed9aa8ea9573142c7f1f369455b66b397e30cf75b9b81c59eed90977273786b0", func := "umbra/umbralaw16.BundleCut", spec := "bundleCut", inPlace := ["math/bits.Add64"], unfollowed := true, recurses := true, apart := false }
def BundleCutSaid : Prop := bundleCutRow.holds Try.pinned (OpenSpec.ofChange bundleCutSpec)

/-- ITS FALSE NEIGHBOUR: 'it returns false'. Refute it at one input. -/
def bundleCutWrong : ChangeSpec := { name := "bundleCut", fn := fun _ => fun
  | [d1, d2, d3] => { results := [.lit (.bool false)], args := [d1, d2, d3] }
  | _ => none }
def BundleCutWrongFalsely : Prop := bundleCutRow.holds Try.pinned (OpenSpec.ofChange bundleCutWrong)

/- THE SECOND FORM. 'bulk': how many values and letters a reading holds, each counted each time it is reached (what is shared counts as often as it is met; a slice's spare places count too). A statement '..UptoSaid' is the law's where the arguments, and the package variables that the reading takes, are together of bulk at most 1048576: NARROWER than '..Said'. Prove '..Said' where nothing that the law and all that it calls make is longer than what came in: it says more and counts as full. Else prove '..UptoSaid'. A law counts once. -/
mutual
def uptoBulk {H : Type} : DataW H → Nat
  | .lit (.string bytes) => bytes.length + 1
  | .lit _ => 1
  | .nil => 1
  | .ptr d => uptoBulk d + 1
  | .slice elems spare => uptoBulkAll elems + uptoBulkAll spare + 1
  | .agg parts => uptoBulkAll parts + 1
  | .iface _ d => uptoBulk d + 1
  | .map entries => uptoBulkEntries entries + 1
  | .held _ => 1
def uptoBulkAll {H : Type} : List (DataW H) → Nat
  | [] => 0
  | d :: r => uptoBulk d + uptoBulkAll r
def uptoBulkEntries {H : Type} : List (Lit × DataW H) → Nat
  | [] => 0
  | x :: r => uptoBulkEntry x + uptoBulkEntries r
def uptoBulkEntry {H : Type} : Lit × DataW H → Nat
  | (.string bytes, d) => bytes.length + uptoBulk d + 1
  | (_, d) => uptoBulk d + 1
 end
def uptoSmall : (H : Type) → List (DataW H) → Bool := fun _ ds => decide (uptoBulkAll ds ≤ 1048576)
def OpenSpec.upto (s : _root_.Go.ChangeSpec) : _root_.Go.OpenSpec := { _root_.Go.OpenSpec.ofChange s with cond := some uptoSmall }

/-- 'umbralaw16.BundleBack', WHERE WHAT IT READS IS OF BULK AT MOST 1048576: true; the input reads as it did. -/
def bundleBackUptoRow : OpenClaim := { program := "ytljnaeghnleipaa", sum := "ed9aa8ea9573142c7f1f369455b66b397e30cf75b9b81c59eed90977273786b0", func := "umbra/umbralaw16.BundleBack", spec := "bundleBack", inPlace := ["math/bits.Add64"], unfollowed := true, recurses := true, apart := false, narrowed := true }
def BundleBackUptoSaid : Prop := bundleBackUptoRow.holds Try.pinned (OpenSpec.upto bundleBackSpec)

/-- 'umbralaw16.BundleJust', WHERE WHAT IT READS IS OF BULK AT MOST 1048576: true; the input reads as it did. -/
def bundleJustUptoRow : OpenClaim := { program := "ytljnaeghnleipaa", sum := "ed9aa8ea9573142c7f1f369455b66b397e30cf75b9b81c59eed90977273786b0", func := "umbra/umbralaw16.BundleJust", spec := "bundleJust", inPlace := ["math/bits.Add64"], unfollowed := true, recurses := true, apart := false, narrowed := true }
def BundleJustUptoSaid : Prop := bundleJustUptoRow.holds Try.pinned (OpenSpec.upto bundleJustSpec)

/-- 'umbralaw16.BundleParts', WHERE WHAT IT READS IS OF BULK AT MOST 1048576: true; the input reads as it did. -/
def bundlePartsUptoRow : OpenClaim := { program := "ytljnaeghnleipaa", sum := "ed9aa8ea9573142c7f1f369455b66b397e30cf75b9b81c59eed90977273786b0", func := "umbra/umbralaw16.BundleParts", spec := "bundleParts", inPlace := ["math/bits.Add64"], unfollowed := true, recurses := true, apart := false, narrowed := true }
def BundlePartsUptoSaid : Prop := bundlePartsUptoRow.holds Try.pinned (OpenSpec.upto bundlePartsSpec)

/-- 'umbralaw16.BundleCut', WHERE WHAT IT READS IS OF BULK AT MOST 1048576: true; the input reads as it did. -/
def bundleCutUptoRow : OpenClaim := { program := "ytljnaeghnleipaa", sum := "ed9aa8ea9573142c7f1f369455b66b397e30cf75b9b81c59eed90977273786b0", func := "umbra/umbralaw16.BundleCut", spec := "bundleCut", inPlace := ["math/bits.Add64"], unfollowed := true, recurses := true, apart := false, narrowed := true }
def BundleCutUptoSaid : Prop := bundleCutUptoRow.holds Try.pinned (OpenSpec.upto bundleCutSpec)

end Rows
end Go.Proofs.Ytljnaeghnleipaa
