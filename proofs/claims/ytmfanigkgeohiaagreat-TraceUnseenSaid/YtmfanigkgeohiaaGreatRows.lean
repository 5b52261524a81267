/-
  No cell of these rows narrows 'for every input' (looked for: loops, veiled, ifaces, maps, wideKeys, modest, calm, conditions, laid).
  DERIVED. THE GIVEN ROWS OF THIS SEAT. 7 by the template 'for every input the law returns true; each argument reads behind the call as it read before'; 0 by the template 'total and deterministic' (their statements: YtmfanigkgeohiaaGreatTotals.lean).
  GIVEN WITH THE SEED: the statements are not yours to turn. If you find one false, say at which input.
  Laid BY PROGRAM, IN A SANDBOX (cutbox-rows.mjs): the forced cells as the released guide's own fill.sh prints them over the translation b39123acde84aeaf… (all of the seat's roots in one cut). By AI agents, Wed Nov 11 2026. No macro, syntax, notation, axiom, sorry.
-/
import Derived.Test.YtmfanigkgeohiaaGreatChecked
import GoSem.Claim
import GoSem.ClaimJoined
import GoSem.ClaimMapViews
import Derived.JoinedTies
import Derived.KernelRfl
namespace Go.Proofs.YtmfanigkgeohiaaGreat
/- THE CELL 'sum', in the pinned program and in every row, IS THE sha256 OF THE DUMP (.gsa) THAT YtmfanigkgeohiaaGreatProg.lean LOADS. Nothing in Lean hashes anything: it is a label: what it is worth is what the hold of that sum in a sandbox is worth. -/
noncomputable def Tryz.pinned : Pinned := { name := "ytmfanigkgeohiaagreat", sum := "b39123acde84aeafa289dd51e0b60a4ad27e6a3d8f96ed5e2f8a9ed13776bd74", checked := Tryz.checked }
namespace Rows
def none {H : Type} : Left H := { results := [], args := [] }

/-- 'umbralaw28.TraceConstant': WHATEVER THE INPUT: true; the input reads as it did. -/
def traceConstantSpec : ChangeSpec := { name := "traceConstant", fn := fun _ => fun
  | [d1, d2, d3] => { results := [.lit (.bool true)], args := [d1, d2, d3] }
  | _ => none }
def traceConstantRow : OpenClaim := { program := "ytmfanigkgeohiaagreat", sum := "b39123acde84aeafa289dd51e0b60a4ad27e6a3d8f96ed5e2f8a9ed13776bd74", func := "umbra/umbralaw28.TraceConstant", spec := "traceConstant", inPlace := ["math/bits.Sub64", "math/bits.Add64"], unfollowed := true, recurses := true, named := ["math/bits.divideError", "math/bits.overflowError"], apart := false }
def TraceConstantSaid : Prop := traceConstantRow.holds Tryz.pinned (OpenSpec.ofChange traceConstantSpec)

/-- ITS FALSE NEIGHBOUR: 'it returns false'. Refute it at one input. -/
def traceConstantWrong : ChangeSpec := { name := "traceConstant", fn := fun _ => fun
  | [d1, d2, d3] => { results := [.lit (.bool false)], args := [d1, d2, d3] }
  | _ => none }
def TraceConstantWrongFalsely : Prop := traceConstantRow.holds Tryz.pinned (OpenSpec.ofChange traceConstantWrong)

/-- 'umbralaw28.TraceAlone': WHATEVER THE INPUT: true; the input reads as it did. -/
def traceAloneSpec : ChangeSpec := { name := "traceAlone", fn := fun _ => fun
  | [d1, d2, d3] => { results := [.lit (.bool true)], args := [d1, d2, d3] }
  | _ => none }
def traceAloneRow : OpenClaim := { program := "ytmfanigkgeohiaagreat", sum := "b39123acde84aeafa289dd51e0b60a4ad27e6a3d8f96ed5e2f8a9ed13776bd74", func := "umbra/umbralaw28.TraceAlone", spec := "traceAlone", inPlace := ["math/bits.Sub64", "math/bits.Add64"], unfollowed := true, recurses := true, named := ["math/bits.divideError", "math/bits.overflowError"], apart := false }
def TraceAloneSaid : Prop := traceAloneRow.holds Tryz.pinned (OpenSpec.ofChange traceAloneSpec)

/-- ITS FALSE NEIGHBOUR: 'it returns false'. Refute it at one input. -/
def traceAloneWrong : ChangeSpec := { name := "traceAlone", fn := fun _ => fun
  | [d1, d2, d3] => { results := [.lit (.bool false)], args := [d1, d2, d3] }
  | _ => none }
def TraceAloneWrongFalsely : Prop := traceAloneRow.holds Tryz.pinned (OpenSpec.ofChange traceAloneWrong)

/-- 'umbralaw28.TraceDark': WHATEVER THE INPUT: true; the input reads as it did. -/
def traceDarkSpec : ChangeSpec := { name := "traceDark", fn := fun _ => fun
  | [d1, d2, d3] => { results := [.lit (.bool true)], args := [d1, d2, d3] }
  | _ => none }
def traceDarkRow : OpenClaim := { program := "ytmfanigkgeohiaagreat", sum := "b39123acde84aeafa289dd51e0b60a4ad27e6a3d8f96ed5e2f8a9ed13776bd74", func := "umbra/umbralaw28.TraceDark", spec := "traceDark", inPlace := ["math/bits.Sub64", "math/bits.Add64"], unfollowed := true, recurses := true, named := ["math/bits.divideError", "math/bits.overflowError"], apart := false }
def TraceDarkSaid : Prop := traceDarkRow.holds Tryz.pinned (OpenSpec.ofChange traceDarkSpec)

/-- ITS FALSE NEIGHBOUR: 'it returns false'. Refute it at one input. -/
def traceDarkWrong : ChangeSpec := { name := "traceDark", fn := fun _ => fun
  | [d1, d2, d3] => { results := [.lit (.bool false)], args := [d1, d2, d3] }
  | _ => none }
def TraceDarkWrongFalsely : Prop := traceDarkRow.holds Tryz.pinned (OpenSpec.ofChange traceDarkWrong)

/-- 'umbralaw28.TraceUnseen': WHATEVER THE INPUT: true; the input reads as it did. -/
def traceUnseenSpec : ChangeSpec := { name := "traceUnseen", fn := fun _ => fun
  | [d1, d2, d3] => { results := [.lit (.bool true)], args := [d1, d2, d3] }
  | _ => none }
def traceUnseenRow : OpenClaim := { program := "ytmfanigkgeohiaagreat", sum := "b39123acde84aeafa289dd51e0b60a4ad27e6a3d8f96ed5e2f8a9ed13776bd74", func := "umbra/umbralaw28.TraceUnseen", spec := "traceUnseen", inPlace := ["math/bits.Sub64", "math/bits.Add64"], unfollowed := true, recurses := true, named := ["math/bits.divideError", "math/bits.overflowError"], apart := false }
def TraceUnseenSaid : Prop := traceUnseenRow.holds Tryz.pinned (OpenSpec.ofChange traceUnseenSpec)

/-- ITS FALSE NEIGHBOUR: 'it returns false'. Refute it at one input. -/
def traceUnseenWrong : ChangeSpec := { name := "traceUnseen", fn := fun _ => fun
  | [d1, d2, d3] => { results := [.lit (.bool false)], args := [d1, d2, d3] }
  | _ => none }
def TraceUnseenWrongFalsely : Prop := traceUnseenRow.holds Tryz.pinned (OpenSpec.ofChange traceUnseenWrong)

/-- 'umbralaw28.TraceChecks': WHATEVER THE INPUT: true; the input reads as it did. -/
def traceChecksSpec : ChangeSpec := { name := "traceChecks", fn := fun _ => fun
  | [d1, d2] => { results := [.lit (.bool true)], args := [d1, d2] }
  | _ => none }
def traceChecksRow : OpenClaim := { program := "ytmfanigkgeohiaagreat", sum := "b39123acde84aeafa289dd51e0b60a4ad27e6a3d8f96ed5e2f8a9ed13776bd74", func := "umbra/umbralaw28.TraceChecks", spec := "traceChecks", inPlace := ["math/bits.Sub64", "math/bits.Add64"], unfollowed := true, recurses := true, named := ["math/bits.divideError", "math/bits.overflowError"], apart := false }
def TraceChecksSaid : Prop := traceChecksRow.holds Tryz.pinned (OpenSpec.ofChange traceChecksSpec)

/-- ITS FALSE NEIGHBOUR: 'it returns false'. Refute it at one input. -/
def traceChecksWrong : ChangeSpec := { name := "traceChecks", fn := fun _ => fun
  | [d1, d2] => { results := [.lit (.bool false)], args := [d1, d2] }
  | _ => none }
def TraceChecksWrongFalsely : Prop := traceChecksRow.holds Tryz.pinned (OpenSpec.ofChange traceChecksWrong)

/-- 'umbralaw28.TracePaths': WHATEVER THE INPUT: true; the input reads as it did. -/
def tracePathsSpec : ChangeSpec := { name := "tracePaths", fn := fun _ => fun
  | [d1, d2, d3] => { results := [.lit (.bool true)], args := [d1, d2, d3] }
  | _ => none }
def tracePathsRow : OpenClaim := { program := "ytmfanigkgeohiaagreat", sum := "b39123acde84aeafa289dd51e0b60a4ad27e6a3d8f96ed5e2f8a9ed13776bd74", func := "umbra/umbralaw28.TracePaths", spec := "tracePaths", inPlace := ["math/bits.Sub64", "math/bits.Add64"], unfollowed := true, recurses := true, named := ["math/bits.divideError", "math/bits.overflowError"], apart := false }
def TracePathsSaid : Prop := tracePathsRow.holds Tryz.pinned (OpenSpec.ofChange tracePathsSpec)

/-- ITS FALSE NEIGHBOUR: 'it returns false'. Refute it at one input. -/
def tracePathsWrong : ChangeSpec := { name := "tracePaths", fn := fun _ => fun
  | [d1, d2, d3] => { results := [.lit (.bool false)], args := [d1, d2, d3] }
  | _ => none }
def TracePathsWrongFalsely : Prop := tracePathsRow.holds Tryz.pinned (OpenSpec.ofChange tracePathsWrong)

/-- 'umbralaw28.TraceSteps': WHATEVER THE INPUT: true; the input reads as it did. -/
def traceStepsSpec : ChangeSpec := { name := "traceSteps", fn := fun _ => fun
  | [d1, d2, d3] => { results := [.lit (.bool true)], args := [d1, d2, d3] }
  | _ => none }
def traceStepsRow : OpenClaim := { program := "ytmfanigkgeohiaagreat", sum := "b39123acde84aeafa289dd51e0b60a4ad27e6a3d8f96ed5e2f8a9ed13776bd74", func := "umbra/umbralaw28.TraceSteps", spec := "traceSteps", inPlace := ["math/bits.Sub64", "math/bits.Add64"], unfollowed := true, recurses := true, named := ["math/bits.divideError", "math/bits.overflowError"], apart := false }
def TraceStepsSaid : Prop := traceStepsRow.holds Tryz.pinned (OpenSpec.ofChange traceStepsSpec)

/-- ITS FALSE NEIGHBOUR: 'it returns false'. Refute it at one input. -/
def traceStepsWrong : ChangeSpec := { name := "traceSteps", fn := fun _ => fun
  | [d1, d2, d3] => { results := [.lit (.bool false)], args := [d1, d2, d3] }
  | _ => none }
def TraceStepsWrongFalsely : Prop := traceStepsRow.holds Tryz.pinned (OpenSpec.ofChange traceStepsWrong)

/- THE SECOND FORM. 'bulk': how many values and letters a reading holds, each counted each time it is reached (what is shared counts as often as it is met; a slice's spare places count too). A statement '..UptoSaid' is the law's where the arguments, and the package variables that the reading takes, are together of bulk at most 1048576: NARROWER than '..Said'. Prove '..Said' where nothing that the law and all that it calls make is longer than what came in: it says more and counts as full. Else prove '..UptoSaid'. A law counts once. -/
mutual
def uptoBulk {H : Type} : DataW H → Nat
  | .lit (.string bytes) => bytes.length + 1
  | .lit _ => 1
  | .nil => 1
  | .ptr d => uptoBulk d + 1
  | .slice elems spare => uptoBulkAll elems + uptoBulkAll spare + 1
  | .agg parts => uptoBulkAll parts + 1
  | .iface _ d => uptoBulk d + 1
  | .map entries => uptoBulkEntries entries + 1
  | .held _ => 1
def uptoBulkAll {H : Type} : List (DataW H) → Nat
  | [] => 0
  | d :: r => uptoBulk d + uptoBulkAll r
def uptoBulkEntries {H : Type} : List (Lit × DataW H) → Nat
  | [] => 0
  | x :: r => uptoBulkEntry x + uptoBulkEntries r
def uptoBulkEntry {H : Type} : Lit × DataW H → Nat
  | (.string bytes, d) => bytes.length + uptoBulk d + 1
  | (_, d) => uptoBulk d + 1
 end
def uptoSmall : (H : Type) → List (DataW H) → Bool := fun _ ds => decide (uptoBulkAll ds ≤ 1048576)
def OpenSpec.upto (s : _root_.Go.ChangeSpec) : _root_.Go.OpenSpec := { _root_.Go.OpenSpec.ofChange s with cond := some uptoSmall }

/-- 'umbralaw28.TraceConstant', WHERE WHAT IT READS IS OF BULK AT MOST 1048576: true; the input reads as it did. -/
def traceConstantUptoRow : OpenClaim := { program := "ytmfanigkgeohiaagreat", sum := "b39123acde84aeafa289dd51e0b60a4ad27e6a3d8f96ed5e2f8a9ed13776bd74", func := "umbra/umbralaw28.TraceConstant", spec := "traceConstant", inPlace := ["math/bits.Sub64", "math/bits.Add64"], unfollowed := true, recurses := true, named := ["math/bits.divideError", "math/bits.overflowError"], apart := false, narrowed := true }
def TraceConstantUptoSaid : Prop := traceConstantUptoRow.holds Tryz.pinned (OpenSpec.upto traceConstantSpec)

/-- 'umbralaw28.TraceAlone', WHERE WHAT IT READS IS OF BULK AT MOST 1048576: true; the input reads as it did. -/
def traceAloneUptoRow : OpenClaim := { program := "ytmfanigkgeohiaagreat", sum := "b39123acde84aeafa289dd51e0b60a4ad27e6a3d8f96ed5e2f8a9ed13776bd74", func := "umbra/umbralaw28.TraceAlone", spec := "traceAlone", inPlace := ["math/bits.Sub64", "math/bits.Add64"], unfollowed := true, recurses := true, named := ["math/bits.divideError", "math/bits.overflowError"], apart := false, narrowed := true }
def TraceAloneUptoSaid : Prop := traceAloneUptoRow.holds Tryz.pinned (OpenSpec.upto traceAloneSpec)

/-- 'umbralaw28.TraceDark', WHERE WHAT IT READS IS OF BULK AT MOST 1048576: true; the input reads as it did. -/
def traceDarkUptoRow : OpenClaim := { program := "ytmfanigkgeohiaagreat", sum := "b39123acde84aeafa289dd51e0b60a4ad27e6a3d8f96ed5e2f8a9ed13776bd74", func := "umbra/umbralaw28.TraceDark", spec := "traceDark", inPlace := ["math/bits.Sub64", "math/bits.Add64"], unfollowed := true, recurses := true, named := ["math/bits.divideError", "math/bits.overflowError"], apart := false, narrowed := true }
def TraceDarkUptoSaid : Prop := traceDarkUptoRow.holds Tryz.pinned (OpenSpec.upto traceDarkSpec)

/-- 'umbralaw28.TraceUnseen', WHERE WHAT IT READS IS OF BULK AT MOST 1048576: true; the input reads as it did. -/
def traceUnseenUptoRow : OpenClaim := { program := "ytmfanigkgeohiaagreat", sum := "b39123acde84aeafa289dd51e0b60a4ad27e6a3d8f96ed5e2f8a9ed13776bd74", func := "umbra/umbralaw28.TraceUnseen", spec := "traceUnseen", inPlace := ["math/bits.Sub64", "math/bits.Add64"], unfollowed := true, recurses := true, named := ["math/bits.divideError", "math/bits.overflowError"], apart := false, narrowed := true }
def TraceUnseenUptoSaid : Prop := traceUnseenUptoRow.holds Tryz.pinned (OpenSpec.upto traceUnseenSpec)

/-- 'umbralaw28.TraceChecks', WHERE WHAT IT READS IS OF BULK AT MOST 1048576: true; the input reads as it did. -/
def traceChecksUptoRow : OpenClaim := { program := "ytmfanigkgeohiaagreat", sum := "b39123acde84aeafa289dd51e0b60a4ad27e6a3d8f96ed5e2f8a9ed13776bd74", func := "umbra/umbralaw28.TraceChecks", spec := "traceChecks", inPlace := ["math/bits.Sub64", "math/bits.Add64"], unfollowed := true, recurses := true, named := ["math/bits.divideError", "math/bits.overflowError"], apart := false, narrowed := true }
def TraceChecksUptoSaid : Prop := traceChecksUptoRow.holds Tryz.pinned (OpenSpec.upto traceChecksSpec)

/-- 'umbralaw28.TracePaths', WHERE WHAT IT READS IS OF BULK AT MOST 1048576: true; the input reads as it did. -/
def tracePathsUptoRow : OpenClaim := { program := "ytmfanigkgeohiaagreat", sum := "b39123acde84aeafa289dd51e0b60a4ad27e6a3d8f96ed5e2f8a9ed13776bd74", func := "umbra/umbralaw28.TracePaths", spec := "tracePaths", inPlace := ["math/bits.Sub64", "math/bits.Add64"], unfollowed := true, recurses := true, named := ["math/bits.divideError", "math/bits.overflowError"], apart := false, narrowed := true }
def TracePathsUptoSaid : Prop := tracePathsUptoRow.holds Tryz.pinned (OpenSpec.upto tracePathsSpec)

/-- 'umbralaw28.TraceSteps', WHERE WHAT IT READS IS OF BULK AT MOST 1048576: true; the input reads as it did. -/
def traceStepsUptoRow : OpenClaim := { program := "ytmfanigkgeohiaagreat", sum := "b39123acde84aeafa289dd51e0b60a4ad27e6a3d8f96ed5e2f8a9ed13776bd74", func := "umbra/umbralaw28.TraceSteps", spec := "traceSteps", inPlace := ["math/bits.Sub64", "math/bits.Add64"], unfollowed := true, recurses := true, named := ["math/bits.divideError", "math/bits.overflowError"], apart := false, narrowed := true }
def TraceStepsUptoSaid : Prop := traceStepsUptoRow.holds Tryz.pinned (OpenSpec.upto traceStepsSpec)

end Rows
end Go.Proofs.YtmfanigkgeohiaaGreat
