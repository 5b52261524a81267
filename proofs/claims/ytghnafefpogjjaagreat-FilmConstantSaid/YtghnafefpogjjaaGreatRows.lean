/-
  No cell of these rows narrows 'for every input' (looked for: loops, veiled, ifaces, maps, wideKeys, modest, calm, conditions, laid).
  DERIVED. THE GIVEN ROWS OF THIS SEAT. 7 by the template 'for every input the law returns true; each argument reads behind the call as it read before'; 0 by the template 'total and deterministic' (their statements: YtghnafefpogjjaaGreatTotals.lean).
  GIVEN WITH THE SEED: the statements are not yours to turn. If you find one false, say at which input.
  Laid BY PROGRAM, IN A SANDBOX (cutbox-rows.mjs): the forced cells as the released guide's own fill.sh prints them over the translation fe6d4dcee55d6121… (all of the seat's roots in one cut). By AI agents, Wed Nov 11 2026. No macro, syntax, notation, axiom, sorry.
-/
import Derived.Test.YtghnafefpogjjaaGreatChecked
import GoSem.Claim
import GoSem.ClaimJoined
import GoSem.ClaimMapViews
import Derived.JoinedTies
import Derived.KernelRfl
namespace Go.Proofs.YtghnafefpogjjaaGreat
/- THE CELL 'sum', in the pinned program and in every row, IS THE sha256 OF THE DUMP (.gsa) THAT YtghnafefpogjjaaGreatProg.lean LOADS. Nothing in Lean hashes anything: it is a label: what it is worth is what the hold of that sum in a sandbox is worth. -/
noncomputable def Tryz.pinned : Pinned := { name := "ytghnafefpogjjaagreat", sum := "fe6d4dcee55d612197b5c75630d1fb070a53173f4b1fab252c71f0ad74e69022", checked := Tryz.checked }
namespace Rows
def none {H : Type} : Left H := { results := [], args := [] }

/-- 'umbralaw29.FilmRenders': WHATEVER THE INPUT: true; the input reads as it did. -/
def filmRendersSpec : ChangeSpec := { name := "filmRenders", fn := fun _ => fun
  | [d1, d2] => { results := [.lit (.bool true)], args := [d1, d2] }
  | _ => none }
def filmRendersRow : OpenClaim := { program := "ytghnafefpogjjaagreat", sum := "fe6d4dcee55d612197b5c75630d1fb070a53173f4b1fab252c71f0ad74e69022", func := "umbra/umbralaw29.FilmRenders", spec := "filmRenders", inPlace := ["math/bits.Sub64", "math/bits.Add64"], unfollowed := true, recurses := true, named := ["math/bits.divideError", "math/bits.overflowError"], apart := false }
def FilmRendersSaid : Prop := filmRendersRow.holds Tryz.pinned (OpenSpec.ofChange filmRendersSpec)

/-- ITS FALSE NEIGHBOUR: 'it returns false'. Refute it at one input. -/
def filmRendersWrong : ChangeSpec := { name := "filmRenders", fn := fun _ => fun
  | [d1, d2] => { results := [.lit (.bool false)], args := [d1, d2] }
  | _ => none }
def FilmRendersWrongFalsely : Prop := filmRendersRow.holds Tryz.pinned (OpenSpec.ofChange filmRendersWrong)

/-- 'umbralaw29.FilmWhole': WHATEVER THE INPUT: true; the input reads as it did. -/
def filmWholeSpec : ChangeSpec := { name := "filmWhole", fn := fun _ => fun
  | [d1, d2] => { results := [.lit (.bool true)], args := [d1, d2] }
  | _ => none }
def filmWholeRow : OpenClaim := { program := "ytghnafefpogjjaagreat", sum := "fe6d4dcee55d612197b5c75630d1fb070a53173f4b1fab252c71f0ad74e69022", func := "umbra/umbralaw29.FilmWhole", spec := "filmWhole", inPlace := ["math/bits.Sub64", "math/bits.Add64"], unfollowed := true, recurses := true, named := ["math/bits.divideError", "math/bits.overflowError"], apart := false }
def FilmWholeSaid : Prop := filmWholeRow.holds Tryz.pinned (OpenSpec.ofChange filmWholeSpec)

/-- ITS FALSE NEIGHBOUR: 'it returns false'. Refute it at one input. -/
def filmWholeWrong : ChangeSpec := { name := "filmWhole", fn := fun _ => fun
  | [d1, d2] => { results := [.lit (.bool false)], args := [d1, d2] }
  | _ => none }
def FilmWholeWrongFalsely : Prop := filmWholeRow.holds Tryz.pinned (OpenSpec.ofChange filmWholeWrong)

/-- 'umbralaw29.FilmConstant': WHATEVER THE INPUT: true; the input reads as it did. -/
def filmConstantSpec : ChangeSpec := { name := "filmConstant", fn := fun _ => fun
  | [d1, d2] => { results := [.lit (.bool true)], args := [d1, d2] }
  | _ => none }
def filmConstantRow : OpenClaim := { program := "ytghnafefpogjjaagreat", sum := "fe6d4dcee55d612197b5c75630d1fb070a53173f4b1fab252c71f0ad74e69022", func := "umbra/umbralaw29.FilmConstant", spec := "filmConstant", inPlace := ["math/bits.Sub64", "math/bits.Add64"], unfollowed := true, recurses := true, named := ["math/bits.divideError", "math/bits.overflowError"], apart := false }
def FilmConstantSaid : Prop := filmConstantRow.holds Tryz.pinned (OpenSpec.ofChange filmConstantSpec)

/-- ITS FALSE NEIGHBOUR: 'it returns false'. Refute it at one input. -/
def filmConstantWrong : ChangeSpec := { name := "filmConstant", fn := fun _ => fun
  | [d1, d2] => { results := [.lit (.bool false)], args := [d1, d2] }
  | _ => none }
def FilmConstantWrongFalsely : Prop := filmConstantRow.holds Tryz.pinned (OpenSpec.ofChange filmConstantWrong)

/-- 'umbralaw29.FilmCosts': WHATEVER THE INPUT: true; the input reads as it did. -/
def filmCostsSpec : ChangeSpec := { name := "filmCosts", fn := fun _ => fun
  | [d1, d2] => { results := [.lit (.bool true)], args := [d1, d2] }
  | _ => none }
def filmCostsRow : OpenClaim := { program := "ytghnafefpogjjaagreat", sum := "fe6d4dcee55d612197b5c75630d1fb070a53173f4b1fab252c71f0ad74e69022", func := "umbra/umbralaw29.FilmCosts", spec := "filmCosts", inPlace := ["math/bits.Sub64", "math/bits.Add64"], unfollowed := true, recurses := true, named := ["math/bits.divideError", "math/bits.overflowError"], apart := false }
def FilmCostsSaid : Prop := filmCostsRow.holds Tryz.pinned (OpenSpec.ofChange filmCostsSpec)

/-- ITS FALSE NEIGHBOUR: 'it returns false'. Refute it at one input. -/
def filmCostsWrong : ChangeSpec := { name := "filmCosts", fn := fun _ => fun
  | [d1, d2] => { results := [.lit (.bool false)], args := [d1, d2] }
  | _ => none }
def FilmCostsWrongFalsely : Prop := filmCostsRow.holds Tryz.pinned (OpenSpec.ofChange filmCostsWrong)

/-- 'umbralaw40.TilesDo': WHATEVER THE INPUT: true; the input reads as it did. -/
def tilesDoSpec : ChangeSpec := { name := "tilesDo", fn := fun _ => fun
  | [d1, d2, d3] => { results := [.lit (.bool true)], args := [d1, d2, d3] }
  | _ => none }
def tilesDoRow : OpenClaim := { program := "ytghnafefpogjjaagreat", sum := "fe6d4dcee55d612197b5c75630d1fb070a53173f4b1fab252c71f0ad74e69022", func := "umbra/umbralaw40.TilesDo", spec := "tilesDo", inPlace := ["math/bits.Sub64", "math/bits.Add64"], unfollowed := true, recurses := true, named := ["math/bits.divideError", "math/bits.overflowError"], apart := false }
def TilesDoSaid : Prop := tilesDoRow.holds Tryz.pinned (OpenSpec.ofChange tilesDoSpec)

/-- ITS FALSE NEIGHBOUR: 'it returns false'. Refute it at one input. -/
def tilesDoWrong : ChangeSpec := { name := "tilesDo", fn := fun _ => fun
  | [d1, d2, d3] => { results := [.lit (.bool false)], args := [d1, d2, d3] }
  | _ => none }
def TilesDoWrongFalsely : Prop := tilesDoRow.holds Tryz.pinned (OpenSpec.ofChange tilesDoWrong)

/-- 'umbralaw40.TilesCopy': WHATEVER THE INPUT: true; the input reads as it did. -/
def tilesCopySpec : ChangeSpec := { name := "tilesCopy", fn := fun _ => fun
  | [d1, d2, d3] => { results := [.lit (.bool true)], args := [d1, d2, d3] }
  | _ => none }
def tilesCopyRow : OpenClaim := { program := "ytghnafefpogjjaagreat", sum := "fe6d4dcee55d612197b5c75630d1fb070a53173f4b1fab252c71f0ad74e69022", func := "umbra/umbralaw40.TilesCopy", spec := "tilesCopy", inPlace := ["math/bits.Sub64", "math/bits.Add64"], unfollowed := true, recurses := true, named := ["math/bits.divideError", "math/bits.overflowError"], apart := false }
def TilesCopySaid : Prop := tilesCopyRow.holds Tryz.pinned (OpenSpec.ofChange tilesCopySpec)

/-- ITS FALSE NEIGHBOUR: 'it returns false'. Refute it at one input. -/
def tilesCopyWrong : ChangeSpec := { name := "tilesCopy", fn := fun _ => fun
  | [d1, d2, d3] => { results := [.lit (.bool false)], args := [d1, d2, d3] }
  | _ => none }
def TilesCopyWrongFalsely : Prop := tilesCopyRow.holds Tryz.pinned (OpenSpec.ofChange tilesCopyWrong)

/-- 'umbralaw40.TilesWhole': WHATEVER THE INPUT: true; the input reads as it did. -/
def tilesWholeSpec : ChangeSpec := { name := "tilesWhole", fn := fun _ => fun
  | [d1, d2, d3] => { results := [.lit (.bool true)], args := [d1, d2, d3] }
  | _ => none }
def tilesWholeRow : OpenClaim := { program := "ytghnafefpogjjaagreat", sum := "fe6d4dcee55d612197b5c75630d1fb070a53173f4b1fab252c71f0ad74e69022", func := "umbra/umbralaw40.TilesWhole", spec := "tilesWhole", inPlace := ["math/bits.Sub64", "math/bits.Add64"], unfollowed := true, recurses := true, named := ["math/bits.divideError", "math/bits.overflowError"], apart := false }
def TilesWholeSaid : Prop := tilesWholeRow.holds Tryz.pinned (OpenSpec.ofChange tilesWholeSpec)

/-- ITS FALSE NEIGHBOUR: 'it returns false'. Refute it at one input. -/
def tilesWholeWrong : ChangeSpec := { name := "tilesWhole", fn := fun _ => fun
  | [d1, d2, d3] => { results := [.lit (.bool false)], args := [d1, d2, d3] }
  | _ => none }
def TilesWholeWrongFalsely : Prop := tilesWholeRow.holds Tryz.pinned (OpenSpec.ofChange tilesWholeWrong)

/- THE SECOND FORM. 'bulk': how many values and letters a reading holds, each counted each time it is reached (what is shared counts as often as it is met; a slice's spare places count too). A statement '..UptoSaid' is the law's where the arguments, and the package variables that the reading takes, are together of bulk at most 1048576: NARROWER than '..Said'. Prove '..Said' where nothing that the law and all that it calls make is longer than what came in: it says more and counts as full. Else prove '..UptoSaid'. A law counts once. -/
mutual
def uptoBulk {H : Type} : DataW H → Nat
  | .lit (.string bytes) => bytes.length + 1
  | .lit _ => 1
  | .nil => 1
  | .ptr d => uptoBulk d + 1
  | .slice elems spare => uptoBulkAll elems + uptoBulkAll spare + 1
  | .agg parts => uptoBulkAll parts + 1
  | .iface _ d => uptoBulk d + 1
  | .map entries => uptoBulkEntries entries + 1
  | .held _ => 1
def uptoBulkAll {H : Type} : List (DataW H) → Nat
  | [] => 0
  | d :: r => uptoBulk d + uptoBulkAll r
def uptoBulkEntries {H : Type} : List (Lit × DataW H) → Nat
  | [] => 0
  | x :: r => uptoBulkEntry x + uptoBulkEntries r
def uptoBulkEntry {H : Type} : Lit × DataW H → Nat
  | (.string bytes, d) => bytes.length + uptoBulk d + 1
  | (_, d) => uptoBulk d + 1
 end
def uptoSmall : (H : Type) → List (DataW H) → Bool := fun _ ds => decide (uptoBulkAll ds ≤ 1048576)
def OpenSpec.upto (s : _root_.Go.ChangeSpec) : _root_.Go.OpenSpec := { _root_.Go.OpenSpec.ofChange s with cond := some uptoSmall }

/-- 'umbralaw29.FilmRenders', WHERE WHAT IT READS IS OF BULK AT MOST 1048576: true; the input reads as it did. -/
def filmRendersUptoRow : OpenClaim := { program := "ytghnafefpogjjaagreat", sum := "fe6d4dcee55d612197b5c75630d1fb070a53173f4b1fab252c71f0ad74e69022", func := "umbra/umbralaw29.FilmRenders", spec := "filmRenders", inPlace := ["math/bits.Sub64", "math/bits.Add64"], unfollowed := true, recurses := true, named := ["math/bits.divideError", "math/bits.overflowError"], apart := false, narrowed := true }
def FilmRendersUptoSaid : Prop := filmRendersUptoRow.holds Tryz.pinned (OpenSpec.upto filmRendersSpec)

/-- 'umbralaw29.FilmWhole', WHERE WHAT IT READS IS OF BULK AT MOST 1048576: true; the input reads as it did. -/
def filmWholeUptoRow : OpenClaim := { program := "ytghnafefpogjjaagreat", sum := "fe6d4dcee55d612197b5c75630d1fb070a53173f4b1fab252c71f0ad74e69022", func := "umbra/umbralaw29.FilmWhole", spec := "filmWhole", inPlace := ["math/bits.Sub64", "math/bits.Add64"], unfollowed := true, recurses := true, named := ["math/bits.divideError", "math/bits.overflowError"], apart := false, narrowed := true }
def FilmWholeUptoSaid : Prop := filmWholeUptoRow.holds Tryz.pinned (OpenSpec.upto filmWholeSpec)

/-- 'umbralaw29.FilmConstant', WHERE WHAT IT READS IS OF BULK AT MOST 1048576: true; the input reads as it did. -/
def filmConstantUptoRow : OpenClaim := { program := "ytghnafefpogjjaagreat", sum := "fe6d4dcee55d612197b5c75630d1fb070a53173f4b1fab252c71f0ad74e69022", func := "umbra/umbralaw29.FilmConstant", spec := "filmConstant", inPlace := ["math/bits.Sub64", "math/bits.Add64"], unfollowed := true, recurses := true, named := ["math/bits.divideError", "math/bits.overflowError"], apart := false, narrowed := true }
def FilmConstantUptoSaid : Prop := filmConstantUptoRow.holds Tryz.pinned (OpenSpec.upto filmConstantSpec)

/-- 'umbralaw29.FilmCosts', WHERE WHAT IT READS IS OF BULK AT MOST 1048576: true; the input reads as it did. -/
def filmCostsUptoRow : OpenClaim := { program := "ytghnafefpogjjaagreat", sum := "fe6d4dcee55d612197b5c75630d1fb070a53173f4b1fab252c71f0ad74e69022", func := "umbra/umbralaw29.FilmCosts", spec := "filmCosts", inPlace := ["math/bits.Sub64", "math/bits.Add64"], unfollowed := true, recurses := true, named := ["math/bits.divideError", "math/bits.overflowError"], apart := false, narrowed := true }
def FilmCostsUptoSaid : Prop := filmCostsUptoRow.holds Tryz.pinned (OpenSpec.upto filmCostsSpec)

/-- 'umbralaw40.TilesDo', WHERE WHAT IT READS IS OF BULK AT MOST 1048576: true; the input reads as it did. -/
def tilesDoUptoRow : OpenClaim := { program := "ytghnafefpogjjaagreat", sum := "fe6d4dcee55d612197b5c75630d1fb070a53173f4b1fab252c71f0ad74e69022", func := "umbra/umbralaw40.TilesDo", spec := "tilesDo", inPlace := ["math/bits.Sub64", "math/bits.Add64"], unfollowed := true, recurses := true, named := ["math/bits.divideError", "math/bits.overflowError"], apart := false, narrowed := true }
def TilesDoUptoSaid : Prop := tilesDoUptoRow.holds Tryz.pinned (OpenSpec.upto tilesDoSpec)

/-- 'umbralaw40.TilesCopy', WHERE WHAT IT READS IS OF BULK AT MOST 1048576: true; the input reads as it did. -/
def tilesCopyUptoRow : OpenClaim := { program := "ytghnafefpogjjaagreat", sum := "fe6d4dcee55d612197b5c75630d1fb070a53173f4b1fab252c71f0ad74e69022", func := "umbra/umbralaw40.TilesCopy", spec := "tilesCopy", inPlace := ["math/bits.Sub64", "math/bits.Add64"], unfollowed := true, recurses := true, named := ["math/bits.divideError", "math/bits.overflowError"], apart := false, narrowed := true }
def TilesCopyUptoSaid : Prop := tilesCopyUptoRow.holds Tryz.pinned (OpenSpec.upto tilesCopySpec)

/-- 'umbralaw40.TilesWhole', WHERE WHAT IT READS IS OF BULK AT MOST 1048576: true; the input reads as it did. -/
def tilesWholeUptoRow : OpenClaim := { program := "ytghnafefpogjjaagreat", sum := "fe6d4dcee55d612197b5c75630d1fb070a53173f4b1fab252c71f0ad74e69022", func := "umbra/umbralaw40.TilesWhole", spec := "tilesWhole", inPlace := ["math/bits.Sub64", "math/bits.Add64"], unfollowed := true, recurses := true, named := ["math/bits.divideError", "math/bits.overflowError"], apart := false, narrowed := true }
def TilesWholeUptoSaid : Prop := tilesWholeUptoRow.holds Tryz.pinned (OpenSpec.upto tilesWholeSpec)

end Rows
end Go.Proofs.YtghnafefpogjjaaGreat
