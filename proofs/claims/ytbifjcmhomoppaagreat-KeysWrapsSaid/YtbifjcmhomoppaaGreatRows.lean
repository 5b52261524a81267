/-
  No cell of these rows narrows 'for every input' (looked for: loops, veiled, ifaces, maps, wideKeys, modest, calm, conditions, laid).
  DERIVED. THE GIVEN ROWS OF THIS SEAT. 4 by the template 'for every input the law returns true; each argument reads behind the call as it read before'; 0 by the template 'total and deterministic' (their statements: YtbifjcmhomoppaaGreatTotals.lean).
  GIVEN WITH THE SEED: the statements are not yours to turn. If you find one false, say at which input.
  Laid BY PROGRAM, IN A SANDBOX (cutbox-rows.mjs): the forced cells as the released guide's own fill.sh prints them over the translation c3b2eda862591788… (all of the seat's roots in one cut). By AI agents, Wed Nov 11 2026. No macro, syntax, notation, axiom, sorry.
-/
import Derived.Test.YtbifjcmhomoppaaGreatChecked
import GoSem.Claim
import GoSem.ClaimJoined
import GoSem.ClaimMapViews
import Derived.JoinedTies
import Derived.KernelRfl
namespace Go.Proofs.YtbifjcmhomoppaaGreat
/- THE CELL 'sum', in the pinned program and in every row, IS THE sha256 OF THE DUMP (.gsa) THAT YtbifjcmhomoppaaGreatProg.lean LOADS. Nothing in Lean hashes anything: it is a label: what it is worth is what the hold of that sum in a sandbox is worth. -/
noncomputable def Tryz.pinned : Pinned := { name := "ytbifjcmhomoppaagreat", sum := "c3b2eda862591788722da1b2bab0c987b3e9a7213f77467024a5d374b1193cf5", checked := Tryz.checked }
namespace Rows
def none {H : Type} : Left H := { results := [], args := [] }

/-- 'umbralaw36.KeysWraps': WHATEVER THE INPUT: true; the input reads as it did. -/
def keysWrapsSpec : ChangeSpec := { name := "keysWraps", fn := fun _ => fun
  | [d1, d2] => { results := [.lit (.bool true)], args := [d1, d2] }
  | _ => none }
def keysWrapsRow : OpenClaim := { program := "ytbifjcmhomoppaagreat", sum := "c3b2eda862591788722da1b2bab0c987b3e9a7213f77467024a5d374b1193cf5", func := "umbra/umbralaw36.KeysWraps", spec := "keysWraps", inPlace := ["math/bits.Add64"], unfollowed := true, recurses := true, apart := false }
def KeysWrapsSaid : Prop := keysWrapsRow.holds Tryz.pinned (OpenSpec.ofChange keysWrapsSpec)

/-- ITS FALSE NEIGHBOUR: 'it returns false'. Refute it at one input. -/
def keysWrapsWrong : ChangeSpec := { name := "keysWraps", fn := fun _ => fun
  | [d1, d2] => { results := [.lit (.bool false)], args := [d1, d2] }
  | _ => none }
def KeysWrapsWrongFalsely : Prop := keysWrapsRow.holds Tryz.pinned (OpenSpec.ofChange keysWrapsWrong)

/-- 'umbralaw36.KeysOpens': WHATEVER THE INPUT: true; the input reads as it did. -/
def keysOpensSpec : ChangeSpec := { name := "keysOpens", fn := fun _ => fun
  | [d1, d2, d3] => { results := [.lit (.bool true)], args := [d1, d2, d3] }
  | _ => none }
def keysOpensRow : OpenClaim := { program := "ytbifjcmhomoppaagreat", sum := "c3b2eda862591788722da1b2bab0c987b3e9a7213f77467024a5d374b1193cf5", func := "umbra/umbralaw36.KeysOpens", spec := "keysOpens", inPlace := ["math/bits.Add64"], unfollowed := true, recurses := true, apart := false }
def KeysOpensSaid : Prop := keysOpensRow.holds Tryz.pinned (OpenSpec.ofChange keysOpensSpec)

/-- ITS FALSE NEIGHBOUR: 'it returns false'. Refute it at one input. -/
def keysOpensWrong : ChangeSpec := { name := "keysOpens", fn := fun _ => fun
  | [d1, d2, d3] => { results := [.lit (.bool false)], args := [d1, d2, d3] }
  | _ => none }
def KeysOpensWrongFalsely : Prop := keysOpensRow.holds Tryz.pinned (OpenSpec.ofChange keysOpensWrong)

/-- 'umbralaw36.KeysHold': WHATEVER THE INPUT: true; the input reads as it did. -/
def keysHoldSpec : ChangeSpec := { name := "keysHold", fn := fun _ => fun
  | [d1, d2, d3] => { results := [.lit (.bool true)], args := [d1, d2, d3] }
  | _ => none }
def keysHoldRow : OpenClaim := { program := "ytbifjcmhomoppaagreat", sum := "c3b2eda862591788722da1b2bab0c987b3e9a7213f77467024a5d374b1193cf5", func := "umbra/umbralaw36.KeysHold", spec := "keysHold", inPlace := ["math/bits.Add64"], unfollowed := true, recurses := true, apart := false }
def KeysHoldSaid : Prop := keysHoldRow.holds Tryz.pinned (OpenSpec.ofChange keysHoldSpec)

/-- ITS FALSE NEIGHBOUR: 'it returns false'. Refute it at one input. -/
def keysHoldWrong : ChangeSpec := { name := "keysHold", fn := fun _ => fun
  | [d1, d2, d3] => { results := [.lit (.bool false)], args := [d1, d2, d3] }
  | _ => none }
def KeysHoldWrongFalsely : Prop := keysHoldRow.holds Tryz.pinned (OpenSpec.ofChange keysHoldWrong)

/-- 'umbralaw36.KeysPlays': WHATEVER THE INPUT: true; the input reads as it did. -/
def keysPlaysSpec : ChangeSpec := { name := "keysPlays", fn := fun _ => fun
  | [d] => { results := [.lit (.bool true)], args := [d] }
  | _ => none }
def keysPlaysRow : OpenClaim := { program := "ytbifjcmhomoppaagreat", sum := "c3b2eda862591788722da1b2bab0c987b3e9a7213f77467024a5d374b1193cf5", func := "umbra/umbralaw36.KeysPlays", spec := "keysPlays", inPlace := ["maps.clone", "math/bits.Add64"], unfollowed := true, recurses := true, apart := false }
def KeysPlaysSaid : Prop := keysPlaysRow.holds Tryz.pinned (OpenSpec.ofChange keysPlaysSpec)

/-- ITS FALSE NEIGHBOUR: 'it returns false'. Refute it at one input. -/
def keysPlaysWrong : ChangeSpec := { name := "keysPlays", fn := fun _ => fun
  | [d] => { results := [.lit (.bool false)], args := [d] }
  | _ => none }
def KeysPlaysWrongFalsely : Prop := keysPlaysRow.holds Tryz.pinned (OpenSpec.ofChange keysPlaysWrong)

/- THE SECOND FORM. 'bulk': how many values and letters a reading holds, each counted each time it is reached (what is shared counts as often as it is met; a slice's spare places count too). A statement '..UptoSaid' is the law's where the arguments, and the package variables that the reading takes, are together of bulk at most 1048576: NARROWER than '..Said'. Prove '..Said' where nothing that the law and all that it calls make is longer than what came in: it says more and counts as full. Else prove '..UptoSaid'. A law counts once. -/
mutual
def uptoBulk {H : Type} : DataW H → Nat
  | .lit (.string bytes) => bytes.length + 1
  | .lit _ => 1
  | .nil => 1
  | .ptr d => uptoBulk d + 1
  | .slice elems spare => uptoBulkAll elems + uptoBulkAll spare + 1
  | .agg parts => uptoBulkAll parts + 1
  | .iface _ d => uptoBulk d + 1
  | .map entries => uptoBulkEntries entries + 1
  | .held _ => 1
def uptoBulkAll {H : Type} : List (DataW H) → Nat
  | [] => 0
  | d :: r => uptoBulk d + uptoBulkAll r
def uptoBulkEntries {H : Type} : List (Lit × DataW H) → Nat
  | [] => 0
  | x :: r => uptoBulkEntry x + uptoBulkEntries r
def uptoBulkEntry {H : Type} : Lit × DataW H → Nat
  | (.string bytes, d) => bytes.length + uptoBulk d + 1
  | (_, d) => uptoBulk d + 1
 end
def uptoSmall : (H : Type) → List (DataW H) → Bool := fun _ ds => decide (uptoBulkAll ds ≤ 1048576)
def OpenSpec.upto (s : _root_.Go.ChangeSpec) : _root_.Go.OpenSpec := { _root_.Go.OpenSpec.ofChange s with cond := some uptoSmall }

/-- 'umbralaw36.KeysWraps', WHERE WHAT IT READS IS OF BULK AT MOST 1048576: true; the input reads as it did. -/
def keysWrapsUptoRow : OpenClaim := { program := "ytbifjcmhomoppaagreat", sum := "c3b2eda862591788722da1b2bab0c987b3e9a7213f77467024a5d374b1193cf5", func := "umbra/umbralaw36.KeysWraps", spec := "keysWraps", inPlace := ["math/bits.Add64"], unfollowed := true, recurses := true, apart := false, narrowed := true }
def KeysWrapsUptoSaid : Prop := keysWrapsUptoRow.holds Tryz.pinned (OpenSpec.upto keysWrapsSpec)

/-- 'umbralaw36.KeysOpens', WHERE WHAT IT READS IS OF BULK AT MOST 1048576: true; the input reads as it did. -/
def keysOpensUptoRow : OpenClaim := { program := "ytbifjcmhomoppaagreat", sum := "c3b2eda862591788722da1b2bab0c987b3e9a7213f77467024a5d374b1193cf5", func := "umbra/umbralaw36.KeysOpens", spec := "keysOpens", inPlace := ["math/bits.Add64"], unfollowed := true, recurses := true, apart := false, narrowed := true }
def KeysOpensUptoSaid : Prop := keysOpensUptoRow.holds Tryz.pinned (OpenSpec.upto keysOpensSpec)

/-- 'umbralaw36.KeysHold', WHERE WHAT IT READS IS OF BULK AT MOST 1048576: true; the input reads as it did. -/
def keysHoldUptoRow : OpenClaim := { program := "ytbifjcmhomoppaagreat", sum := "c3b2eda862591788722da1b2bab0c987b3e9a7213f77467024a5d374b1193cf5", func := "umbra/umbralaw36.KeysHold", spec := "keysHold", inPlace := ["math/bits.Add64"], unfollowed := true, recurses := true, apart := false, narrowed := true }
def KeysHoldUptoSaid : Prop := keysHoldUptoRow.holds Tryz.pinned (OpenSpec.upto keysHoldSpec)

/-- 'umbralaw36.KeysPlays', WHERE WHAT IT READS IS OF BULK AT MOST 1048576: true; the input reads as it did. -/
def keysPlaysUptoRow : OpenClaim := { program := "ytbifjcmhomoppaagreat", sum := "c3b2eda862591788722da1b2bab0c987b3e9a7213f77467024a5d374b1193cf5", func := "umbra/umbralaw36.KeysPlays", spec := "keysPlays", inPlace := ["maps.clone", "math/bits.Add64"], unfollowed := true, recurses := true, apart := false, narrowed := true }
def KeysPlaysUptoSaid : Prop := keysPlaysUptoRow.holds Tryz.pinned (OpenSpec.upto keysPlaysSpec)

end Rows
end Go.Proofs.YtbifjcmhomoppaaGreat
