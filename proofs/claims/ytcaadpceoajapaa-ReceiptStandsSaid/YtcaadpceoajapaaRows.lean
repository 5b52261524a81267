/-
  No cell of these rows narrows 'for every input' (looked for: loops, veiled, ifaces, maps, wideKeys, modest, calm, conditions, laid).
  DERIVED. THE GIVEN ROWS OF THIS SEAT. 16 by the template 'for every input the law returns true; each argument reads behind the call as it read before'; 0 by the template 'total and deterministic' (their statements: YtcaadpceoajapaaTotals.lean).
  GIVEN WITH THE SEED: the statements are not yours to turn. If you find one false, say at which input.
  Laid BY PROGRAM, IN A SANDBOX (cutbox-rows.mjs): the forced cells as the released guide's own fill.sh prints them over the translation 61e57a4127a050f8… (all of the seat's roots in one cut). By AI agents, Wed Nov 11 2026. No macro, syntax, notation, axiom, sorry.
-/
import Derived.Test.YtcaadpceoajapaaChecked
import GoSem.Claim
import GoSem.ClaimJoined
import GoSem.ClaimMapViews
import Derived.JoinedTies
import Derived.KernelRfl
namespace Go.Proofs.Ytcaadpceoajapaa
/- THE CELL 'sum', in the pinned program and in every row, IS THE sha256 OF THE DUMP (.gsa) THAT YtcaadpceoajapaaProg.lean LOADS. Nothing in Lean hashes anything: it is a label: what it is worth is what the hold of that sum in a sandbox is worth. -/
noncomputable def Try.pinned : Pinned := { name := "ytcaadpceoajapaa", sum := "61e57a4127a050f847d7a7ecd40190cbb7a7465994bbd248273cf9ddeb96ebd5", checked := Try.checked }
namespace Rows
def none {H : Type} : Left H := { results := [], args := [] }

/-- 'umbralaw40.TilesCover': WHATEVER THE INPUT: true; the input reads as it did. -/
def tilesCoverSpec : ChangeSpec := { name := "tilesCover", fn := fun _ => fun
  | [d1, d2, d3] => { results := [.lit (.bool true)], args := [d1, d2, d3] }
  | _ => none }
def tilesCoverRow : OpenClaim := { program := "ytcaadpceoajapaa", sum := "61e57a4127a050f847d7a7ecd40190cbb7a7465994bbd248273cf9ddeb96ebd5", func := "umbra/umbralaw40.TilesCover", spec := "tilesCover", unfollowed := true, recurses := true, apart := false }
def TilesCoverSaid : Prop := tilesCoverRow.holds Try.pinned (OpenSpec.ofChange tilesCoverSpec)

/-- ITS FALSE NEIGHBOUR: 'it returns false'. Refute it at one input. -/
def tilesCoverWrong : ChangeSpec := { name := "tilesCover", fn := fun _ => fun
  | [d1, d2, d3] => { results := [.lit (.bool false)], args := [d1, d2, d3] }
  | _ => none }
def TilesCoverWrongFalsely : Prop := tilesCoverRow.holds Try.pinned (OpenSpec.ofChange tilesCoverWrong)

/-- 'umbralaw40.TilesOnce': WHATEVER THE INPUT: true; the input reads as it did. -/
def tilesOnceSpec : ChangeSpec := { name := "tilesOnce", fn := fun _ => fun
  | [d1, d2, d3] => { results := [.lit (.bool true)], args := [d1, d2, d3] }
  | _ => none }
def tilesOnceRow : OpenClaim := { program := "ytcaadpceoajapaa", sum := "61e57a4127a050f847d7a7ecd40190cbb7a7465994bbd248273cf9ddeb96ebd5", func := "umbra/umbralaw40.TilesOnce", spec := "tilesOnce", unfollowed := true, recurses := true, apart := false }
def TilesOnceSaid : Prop := tilesOnceRow.holds Try.pinned (OpenSpec.ofChange tilesOnceSpec)

/-- ITS FALSE NEIGHBOUR: 'it returns false'. Refute it at one input. -/
def tilesOnceWrong : ChangeSpec := { name := "tilesOnce", fn := fun _ => fun
  | [d1, d2, d3] => { results := [.lit (.bool false)], args := [d1, d2, d3] }
  | _ => none }
def TilesOnceWrongFalsely : Prop := tilesOnceRow.holds Try.pinned (OpenSpec.ofChange tilesOnceWrong)

/-- 'umbralaw42.FilterWeighs': WHATEVER THE INPUT: true; the input reads as it did. -/
def filterWeighsSpec : ChangeSpec := { name := "filterWeighs", fn := fun _ => fun
  | [d1, d2] => { results := [.lit (.bool true)], args := [d1, d2] }
  | _ => none }
def filterWeighsRow : OpenClaim := { program := "ytcaadpceoajapaa", sum := "61e57a4127a050f847d7a7ecd40190cbb7a7465994bbd248273cf9ddeb96ebd5", func := "umbra/umbralaw42.FilterWeighs", spec := "filterWeighs", unfollowed := true, recurses := true, apart := false }
def FilterWeighsSaid : Prop := filterWeighsRow.holds Try.pinned (OpenSpec.ofChange filterWeighsSpec)

/-- ITS FALSE NEIGHBOUR: 'it returns false'. Refute it at one input. -/
def filterWeighsWrong : ChangeSpec := { name := "filterWeighs", fn := fun _ => fun
  | [d1, d2] => { results := [.lit (.bool false)], args := [d1, d2] }
  | _ => none }
def FilterWeighsWrongFalsely : Prop := filterWeighsRow.holds Try.pinned (OpenSpec.ofChange filterWeighsWrong)

/-- 'umbralaw42.FilterBack': WHATEVER THE INPUT: true; the input reads as it did. -/
def filterBackSpec : ChangeSpec := { name := "filterBack", fn := fun _ => fun
  | [d] => { results := [.lit (.bool true)], args := [d] }
  | _ => none }
def filterBackRow : OpenClaim := { program := "ytcaadpceoajapaa", sum := "61e57a4127a050f847d7a7ecd40190cbb7a7465994bbd248273cf9ddeb96ebd5", func := "umbra/umbralaw42.FilterBack", spec := "filterBack", unfollowed := true, recurses := true, apart := false }
def FilterBackSaid : Prop := filterBackRow.holds Try.pinned (OpenSpec.ofChange filterBackSpec)

/-- ITS FALSE NEIGHBOUR: 'it returns false'. Refute it at one input. -/
def filterBackWrong : ChangeSpec := { name := "filterBack", fn := fun _ => fun
  | [d] => { results := [.lit (.bool false)], args := [d] }
  | _ => none }
def FilterBackWrongFalsely : Prop := filterBackRow.holds Try.pinned (OpenSpec.ofChange filterBackWrong)

/-- 'umbralaw29.FilmNumbers': WHATEVER THE INPUT: true; the input reads as it did. -/
def filmNumbersSpec : ChangeSpec := { name := "filmNumbers", fn := fun _ => fun
  | [d] => { results := [.lit (.bool true)], args := [d] }
  | _ => none }
def filmNumbersRow : OpenClaim := { program := "ytcaadpceoajapaa", sum := "61e57a4127a050f847d7a7ecd40190cbb7a7465994bbd248273cf9ddeb96ebd5", func := "umbra/umbralaw29.FilmNumbers", spec := "filmNumbers", inPlace := ["math/bits.Sub64", "math/bits.Add64"], named := ["math/bits.divideError", "math/bits.overflowError"], apart := false }
def FilmNumbersSaid : Prop := filmNumbersRow.holds Try.pinned (OpenSpec.ofChange filmNumbersSpec)

/-- ITS FALSE NEIGHBOUR: 'it returns false'. Refute it at one input. -/
def filmNumbersWrong : ChangeSpec := { name := "filmNumbers", fn := fun _ => fun
  | [d] => { results := [.lit (.bool false)], args := [d] }
  | _ => none }
def FilmNumbersWrongFalsely : Prop := filmNumbersRow.holds Try.pinned (OpenSpec.ofChange filmNumbersWrong)

/-- 'umbralaw29.FilmRises': WHATEVER THE INPUT: true; the input reads as it did. -/
def filmRisesSpec : ChangeSpec := { name := "filmRises", fn := fun _ => fun
  | [d1, d2] => { results := [.lit (.bool true)], args := [d1, d2] }
  | _ => none }
def filmRisesRow : OpenClaim := { program := "ytcaadpceoajapaa", sum := "61e57a4127a050f847d7a7ecd40190cbb7a7465994bbd248273cf9ddeb96ebd5", func := "umbra/umbralaw29.FilmRises", spec := "filmRises", inPlace := ["math/bits.Sub64", "math/bits.Add64"], named := ["math/bits.divideError", "math/bits.overflowError"], apart := false }
def FilmRisesSaid : Prop := filmRisesRow.holds Try.pinned (OpenSpec.ofChange filmRisesSpec)

/-- ITS FALSE NEIGHBOUR: 'it returns false'. Refute it at one input. -/
def filmRisesWrong : ChangeSpec := { name := "filmRises", fn := fun _ => fun
  | [d1, d2] => { results := [.lit (.bool false)], args := [d1, d2] }
  | _ => none }
def FilmRisesWrongFalsely : Prop := filmRisesRow.holds Try.pinned (OpenSpec.ofChange filmRisesWrong)

/-- 'umbralaw37.ReceiptIssues': WHATEVER THE INPUT: true; the input reads as it did. -/
def receiptIssuesSpec : ChangeSpec := { name := "receiptIssues", fn := fun _ => fun
  | [d1, d2, d3] => { results := [.lit (.bool true)], args := [d1, d2, d3] }
  | _ => none }
def receiptIssuesRow : OpenClaim := { program := "ytcaadpceoajapaa", sum := "61e57a4127a050f847d7a7ecd40190cbb7a7465994bbd248273cf9ddeb96ebd5", func := "umbra/umbralaw37.ReceiptIssues", spec := "receiptIssues", apart := false }
def ReceiptIssuesSaid : Prop := receiptIssuesRow.holds Try.pinned (OpenSpec.ofChange receiptIssuesSpec)

/-- ITS FALSE NEIGHBOUR: 'it returns false'. Refute it at one input. -/
def receiptIssuesWrong : ChangeSpec := { name := "receiptIssues", fn := fun _ => fun
  | [d1, d2, d3] => { results := [.lit (.bool false)], args := [d1, d2, d3] }
  | _ => none }
def ReceiptIssuesWrongFalsely : Prop := receiptIssuesRow.holds Try.pinned (OpenSpec.ofChange receiptIssuesWrong)

/-- 'umbralaw37.ReceiptOther': WHATEVER THE INPUT: true; the input reads as it did. -/
def receiptOtherSpec : ChangeSpec := { name := "receiptOther", fn := fun _ => fun
  | [d1, d2, d3] => { results := [.lit (.bool true)], args := [d1, d2, d3] }
  | _ => none }
def receiptOtherRow : OpenClaim := { program := "ytcaadpceoajapaa", sum := "61e57a4127a050f847d7a7ecd40190cbb7a7465994bbd248273cf9ddeb96ebd5", func := "umbra/umbralaw37.ReceiptOther", spec := "receiptOther", apart := false }
def ReceiptOtherSaid : Prop := receiptOtherRow.holds Try.pinned (OpenSpec.ofChange receiptOtherSpec)

/-- ITS FALSE NEIGHBOUR: 'it returns false'. Refute it at one input. -/
def receiptOtherWrong : ChangeSpec := { name := "receiptOther", fn := fun _ => fun
  | [d1, d2, d3] => { results := [.lit (.bool false)], args := [d1, d2, d3] }
  | _ => none }
def ReceiptOtherWrongFalsely : Prop := receiptOtherRow.holds Try.pinned (OpenSpec.ofChange receiptOtherWrong)

/-- 'umbralaw29.FilmSame': WHATEVER THE INPUT: true; the input reads as it did. -/
def filmSameSpec : ChangeSpec := { name := "filmSame", fn := fun _ => fun
  | [d1, d2] => { results := [.lit (.bool true)], args := [d1, d2] }
  | _ => none }
def filmSameRow : OpenClaim := { program := "ytcaadpceoajapaa", sum := "61e57a4127a050f847d7a7ecd40190cbb7a7465994bbd248273cf9ddeb96ebd5", func := "umbra/umbralaw29.FilmSame", spec := "filmSame", inPlace := ["math/bits.Sub64", "math/bits.Add64"], named := ["math/bits.divideError", "math/bits.overflowError"], apart := false }
def FilmSameSaid : Prop := filmSameRow.holds Try.pinned (OpenSpec.ofChange filmSameSpec)

/-- ITS FALSE NEIGHBOUR: 'it returns false'. Refute it at one input. -/
def filmSameWrong : ChangeSpec := { name := "filmSame", fn := fun _ => fun
  | [d1, d2] => { results := [.lit (.bool false)], args := [d1, d2] }
  | _ => none }
def FilmSameWrongFalsely : Prop := filmSameRow.holds Try.pinned (OpenSpec.ofChange filmSameWrong)

/-- 'umbralaw37.ReceiptBytes': WHATEVER THE INPUT: true; the input reads as it did. -/
def receiptBytesSpec : ChangeSpec := { name := "receiptBytes", fn := fun _ => fun
  | [d1, d2] => { results := [.lit (.bool true)], args := [d1, d2] }
  | _ => none }
def receiptBytesRow : OpenClaim := { program := "ytcaadpceoajapaa", sum := "61e57a4127a050f847d7a7ecd40190cbb7a7465994bbd248273cf9ddeb96ebd5", func := "umbra/umbralaw37.ReceiptBytes", spec := "receiptBytes", apart := false }
def ReceiptBytesSaid : Prop := receiptBytesRow.holds Try.pinned (OpenSpec.ofChange receiptBytesSpec)

/-- ITS FALSE NEIGHBOUR: 'it returns false'. Refute it at one input. -/
def receiptBytesWrong : ChangeSpec := { name := "receiptBytes", fn := fun _ => fun
  | [d1, d2] => { results := [.lit (.bool false)], args := [d1, d2] }
  | _ => none }
def ReceiptBytesWrongFalsely : Prop := receiptBytesRow.holds Try.pinned (OpenSpec.ofChange receiptBytesWrong)

/-- 'umbralaw29.FilmPixels': WHATEVER THE INPUT: true; the input reads as it did. -/
def filmPixelsSpec : ChangeSpec := { name := "filmPixels", fn := fun _ => fun
  | [d1, d2] => { results := [.lit (.bool true)], args := [d1, d2] }
  | _ => none }
def filmPixelsRow : OpenClaim := { program := "ytcaadpceoajapaa", sum := "61e57a4127a050f847d7a7ecd40190cbb7a7465994bbd248273cf9ddeb96ebd5", func := "umbra/umbralaw29.FilmPixels", spec := "filmPixels", inPlace := ["math/bits.Sub64", "math/bits.Add64"], unfollowed := true, recurses := true, named := ["math/bits.divideError", "math/bits.overflowError"], apart := false }
def FilmPixelsSaid : Prop := filmPixelsRow.holds Try.pinned (OpenSpec.ofChange filmPixelsSpec)

/-- ITS FALSE NEIGHBOUR: 'it returns false'. Refute it at one input. -/
def filmPixelsWrong : ChangeSpec := { name := "filmPixels", fn := fun _ => fun
  | [d1, d2] => { results := [.lit (.bool false)], args := [d1, d2] }
  | _ => none }
def FilmPixelsWrongFalsely : Prop := filmPixelsRow.holds Try.pinned (OpenSpec.ofChange filmPixelsWrong)

/-- 'umbralaw42.FilterFlat': WHATEVER THE INPUT: true; the input reads as it did. -/
def filterFlatSpec : ChangeSpec := { name := "filterFlat", fn := fun _ => fun
  | [d1, d2, d3] => { results := [.lit (.bool true)], args := [d1, d2, d3] }
  | _ => none }
def filterFlatRow : OpenClaim := { program := "ytcaadpceoajapaa", sum := "61e57a4127a050f847d7a7ecd40190cbb7a7465994bbd248273cf9ddeb96ebd5", func := "umbra/umbralaw42.FilterFlat", spec := "filterFlat", unfollowed := true, recurses := true, apart := false }
def FilterFlatSaid : Prop := filterFlatRow.holds Try.pinned (OpenSpec.ofChange filterFlatSpec)

/-- ITS FALSE NEIGHBOUR: 'it returns false'. Refute it at one input. -/
def filterFlatWrong : ChangeSpec := { name := "filterFlat", fn := fun _ => fun
  | [d1, d2, d3] => { results := [.lit (.bool false)], args := [d1, d2, d3] }
  | _ => none }
def FilterFlatWrongFalsely : Prop := filterFlatRow.holds Try.pinned (OpenSpec.ofChange filterFlatWrong)

/-- 'umbralaw42.FilterSizes': WHATEVER THE INPUT: true; the input reads as it did. -/
def filterSizesSpec : ChangeSpec := { name := "filterSizes", fn := fun _ => fun
  | [d1, d2] => { results := [.lit (.bool true)], args := [d1, d2] }
  | _ => none }
def filterSizesRow : OpenClaim := { program := "ytcaadpceoajapaa", sum := "61e57a4127a050f847d7a7ecd40190cbb7a7465994bbd248273cf9ddeb96ebd5", func := "umbra/umbralaw42.FilterSizes", spec := "filterSizes", unfollowed := true, recurses := true, apart := false }
def FilterSizesSaid : Prop := filterSizesRow.holds Try.pinned (OpenSpec.ofChange filterSizesSpec)

/-- ITS FALSE NEIGHBOUR: 'it returns false'. Refute it at one input. -/
def filterSizesWrong : ChangeSpec := { name := "filterSizes", fn := fun _ => fun
  | [d1, d2] => { results := [.lit (.bool false)], args := [d1, d2] }
  | _ => none }
def FilterSizesWrongFalsely : Prop := filterSizesRow.holds Try.pinned (OpenSpec.ofChange filterSizesWrong)

/-- 'umbralaw42.FilterTurns': WHATEVER THE INPUT: true; the input reads as it did. -/
def filterTurnsSpec : ChangeSpec := { name := "filterTurns", fn := fun _ => fun
  | [d1, d2] => { results := [.lit (.bool true)], args := [d1, d2] }
  | _ => none }
def filterTurnsRow : OpenClaim := { program := "ytcaadpceoajapaa", sum := "61e57a4127a050f847d7a7ecd40190cbb7a7465994bbd248273cf9ddeb96ebd5", func := "umbra/umbralaw42.FilterTurns", spec := "filterTurns", unfollowed := true, recurses := true, apart := false }
def FilterTurnsSaid : Prop := filterTurnsRow.holds Try.pinned (OpenSpec.ofChange filterTurnsSpec)

/-- ITS FALSE NEIGHBOUR: 'it returns false'. Refute it at one input. -/
def filterTurnsWrong : ChangeSpec := { name := "filterTurns", fn := fun _ => fun
  | [d1, d2] => { results := [.lit (.bool false)], args := [d1, d2] }
  | _ => none }
def FilterTurnsWrongFalsely : Prop := filterTurnsRow.holds Try.pinned (OpenSpec.ofChange filterTurnsWrong)

/-- 'umbralaw37.ReceiptAudits': WHATEVER THE INPUT: true; the input reads as it did. -/
def receiptAuditsSpec : ChangeSpec := { name := "receiptAudits", fn := fun _ => fun
  | [d1, d2] => { results := [.lit (.bool true)], args := [d1, d2] }
  | _ => none }
def receiptAuditsRow : OpenClaim := { program := "ytcaadpceoajapaa", sum := "61e57a4127a050f847d7a7ecd40190cbb7a7465994bbd248273cf9ddeb96ebd5", func := "umbra/umbralaw37.ReceiptAudits", spec := "receiptAudits", unfollowed := true, recurses := true, apart := false }
def ReceiptAuditsSaid : Prop := receiptAuditsRow.holds Try.pinned (OpenSpec.ofChange receiptAuditsSpec)

/-- ITS FALSE NEIGHBOUR: 'it returns false'. Refute it at one input. -/
def receiptAuditsWrong : ChangeSpec := { name := "receiptAudits", fn := fun _ => fun
  | [d1, d2] => { results := [.lit (.bool false)], args := [d1, d2] }
  | _ => none }
def ReceiptAuditsWrongFalsely : Prop := receiptAuditsRow.holds Try.pinned (OpenSpec.ofChange receiptAuditsWrong)

/-- 'umbralaw37.ReceiptStands': WHATEVER THE INPUT: true; the input reads as it did. -/
def receiptStandsSpec : ChangeSpec := { name := "receiptStands", fn := fun _ => fun
  | [d1, d2] => { results := [.lit (.bool true)], args := [d1, d2] }
  | _ => none }
def receiptStandsRow : OpenClaim := { program := "ytcaadpceoajapaa", sum := "61e57a4127a050f847d7a7ecd40190cbb7a7465994bbd248273cf9ddeb96ebd5", func := "umbra/umbralaw37.ReceiptStands", spec := "receiptStands", unfollowed := true, recurses := true, apart := false }
def ReceiptStandsSaid : Prop := receiptStandsRow.holds Try.pinned (OpenSpec.ofChange receiptStandsSpec)

/-- ITS FALSE NEIGHBOUR: 'it returns false'. Refute it at one input. -/
def receiptStandsWrong : ChangeSpec := { name := "receiptStands", fn := fun _ => fun
  | [d1, d2] => { results := [.lit (.bool false)], args := [d1, d2] }
  | _ => none }
def ReceiptStandsWrongFalsely : Prop := receiptStandsRow.holds Try.pinned (OpenSpec.ofChange receiptStandsWrong)

/- THE SECOND FORM. 'bulk': how many values and letters a reading holds, each counted each time it is reached (what is shared counts as often as it is met; a slice's spare places count too). A statement '..UptoSaid' is the law's where the arguments, and the package variables that the reading takes, are together of bulk at most 1048576: NARROWER than '..Said'. Prove '..Said' where nothing that the law and all that it calls make is longer than what came in: it says more and counts as full. Else prove '..UptoSaid'. A law counts once. -/
mutual
def uptoBulk {H : Type} : DataW H → Nat
  | .lit (.string bytes) => bytes.length + 1
  | .lit _ => 1
  | .nil => 1
  | .ptr d => uptoBulk d + 1
  | .slice elems spare => uptoBulkAll elems + uptoBulkAll spare + 1
  | .agg parts => uptoBulkAll parts + 1
  | .iface _ d => uptoBulk d + 1
  | .map entries => uptoBulkEntries entries + 1
  | .held _ => 1
def uptoBulkAll {H : Type} : List (DataW H) → Nat
  | [] => 0
  | d :: r => uptoBulk d + uptoBulkAll r
def uptoBulkEntries {H : Type} : List (Lit × DataW H) → Nat
  | [] => 0
  | x :: r => uptoBulkEntry x + uptoBulkEntries r
def uptoBulkEntry {H : Type} : Lit × DataW H → Nat
  | (.string bytes, d) => bytes.length + uptoBulk d + 1
  | (_, d) => uptoBulk d + 1
 end
def uptoSmall : (H : Type) → List (DataW H) → Bool := fun _ ds => decide (uptoBulkAll ds ≤ 1048576)
def OpenSpec.upto (s : _root_.Go.ChangeSpec) : _root_.Go.OpenSpec := { _root_.Go.OpenSpec.ofChange s with cond := some uptoSmall }

/-- 'umbralaw40.TilesCover', WHERE WHAT IT READS IS OF BULK AT MOST 1048576: true; the input reads as it did. -/
def tilesCoverUptoRow : OpenClaim := { program := "ytcaadpceoajapaa", sum := "61e57a4127a050f847d7a7ecd40190cbb7a7465994bbd248273cf9ddeb96ebd5", func := "umbra/umbralaw40.TilesCover", spec := "tilesCover", unfollowed := true, recurses := true, apart := false, narrowed := true }
def TilesCoverUptoSaid : Prop := tilesCoverUptoRow.holds Try.pinned (OpenSpec.upto tilesCoverSpec)

/-- 'umbralaw40.TilesOnce', WHERE WHAT IT READS IS OF BULK AT MOST 1048576: true; the input reads as it did. -/
def tilesOnceUptoRow : OpenClaim := { program := "ytcaadpceoajapaa", sum := "61e57a4127a050f847d7a7ecd40190cbb7a7465994bbd248273cf9ddeb96ebd5", func := "umbra/umbralaw40.TilesOnce", spec := "tilesOnce", unfollowed := true, recurses := true, apart := false, narrowed := true }
def TilesOnceUptoSaid : Prop := tilesOnceUptoRow.holds Try.pinned (OpenSpec.upto tilesOnceSpec)

/-- 'umbralaw42.FilterWeighs', WHERE WHAT IT READS IS OF BULK AT MOST 1048576: true; the input reads as it did. -/
def filterWeighsUptoRow : OpenClaim := { program := "ytcaadpceoajapaa", sum := "61e57a4127a050f847d7a7ecd40190cbb7a7465994bbd248273cf9ddeb96ebd5", func := "umbra/umbralaw42.FilterWeighs", spec := "filterWeighs", unfollowed := true, recurses := true, apart := false, narrowed := true }
def FilterWeighsUptoSaid : Prop := filterWeighsUptoRow.holds Try.pinned (OpenSpec.upto filterWeighsSpec)

/-- 'umbralaw42.FilterBack', WHERE WHAT IT READS IS OF BULK AT MOST 1048576: true; the input reads as it did. -/
def filterBackUptoRow : OpenClaim := { program := "ytcaadpceoajapaa", sum := "61e57a4127a050f847d7a7ecd40190cbb7a7465994bbd248273cf9ddeb96ebd5", func := "umbra/umbralaw42.FilterBack", spec := "filterBack", unfollowed := true, recurses := true, apart := false, narrowed := true }
def FilterBackUptoSaid : Prop := filterBackUptoRow.holds Try.pinned (OpenSpec.upto filterBackSpec)

/-- 'umbralaw29.FilmNumbers', WHERE WHAT IT READS IS OF BULK AT MOST 1048576: true; the input reads as it did. -/
def filmNumbersUptoRow : OpenClaim := { program := "ytcaadpceoajapaa", sum := "61e57a4127a050f847d7a7ecd40190cbb7a7465994bbd248273cf9ddeb96ebd5", func := "umbra/umbralaw29.FilmNumbers", spec := "filmNumbers", inPlace := ["math/bits.Sub64", "math/bits.Add64"], named := ["math/bits.divideError", "math/bits.overflowError"], apart := false, narrowed := true }
def FilmNumbersUptoSaid : Prop := filmNumbersUptoRow.holds Try.pinned (OpenSpec.upto filmNumbersSpec)

/-- 'umbralaw29.FilmRises', WHERE WHAT IT READS IS OF BULK AT MOST 1048576: true; the input reads as it did. -/
def filmRisesUptoRow : OpenClaim := { program := "ytcaadpceoajapaa", sum := "61e57a4127a050f847d7a7ecd40190cbb7a7465994bbd248273cf9ddeb96ebd5", func := "umbra/umbralaw29.FilmRises", spec := "filmRises", inPlace := ["math/bits.Sub64", "math/bits.Add64"], named := ["math/bits.divideError", "math/bits.overflowError"], apart := false, narrowed := true }
def FilmRisesUptoSaid : Prop := filmRisesUptoRow.holds Try.pinned (OpenSpec.upto filmRisesSpec)

/-- 'umbralaw37.ReceiptIssues', WHERE WHAT IT READS IS OF BULK AT MOST 1048576: true; the input reads as it did. -/
def receiptIssuesUptoRow : OpenClaim := { program := "ytcaadpceoajapaa", sum := "61e57a4127a050f847d7a7ecd40190cbb7a7465994bbd248273cf9ddeb96ebd5", func := "umbra/umbralaw37.ReceiptIssues", spec := "receiptIssues", apart := false, narrowed := true }
def ReceiptIssuesUptoSaid : Prop := receiptIssuesUptoRow.holds Try.pinned (OpenSpec.upto receiptIssuesSpec)

/-- 'umbralaw37.ReceiptOther', WHERE WHAT IT READS IS OF BULK AT MOST 1048576: true; the input reads as it did. -/
def receiptOtherUptoRow : OpenClaim := { program := "ytcaadpceoajapaa", sum := "61e57a4127a050f847d7a7ecd40190cbb7a7465994bbd248273cf9ddeb96ebd5", func := "umbra/umbralaw37.ReceiptOther", spec := "receiptOther", apart := false, narrowed := true }
def ReceiptOtherUptoSaid : Prop := receiptOtherUptoRow.holds Try.pinned (OpenSpec.upto receiptOtherSpec)

/-- 'umbralaw29.FilmSame', WHERE WHAT IT READS IS OF BULK AT MOST 1048576: true; the input reads as it did. -/
def filmSameUptoRow : OpenClaim := { program := "ytcaadpceoajapaa", sum := "61e57a4127a050f847d7a7ecd40190cbb7a7465994bbd248273cf9ddeb96ebd5", func := "umbra/umbralaw29.FilmSame", spec := "filmSame", inPlace := ["math/bits.Sub64", "math/bits.Add64"], named := ["math/bits.divideError", "math/bits.overflowError"], apart := false, narrowed := true }
def FilmSameUptoSaid : Prop := filmSameUptoRow.holds Try.pinned (OpenSpec.upto filmSameSpec)

/-- 'umbralaw37.ReceiptBytes', WHERE WHAT IT READS IS OF BULK AT MOST 1048576: true; the input reads as it did. -/
def receiptBytesUptoRow : OpenClaim := { program := "ytcaadpceoajapaa", sum := "61e57a4127a050f847d7a7ecd40190cbb7a7465994bbd248273cf9ddeb96ebd5", func := "umbra/umbralaw37.ReceiptBytes", spec := "receiptBytes", apart := false, narrowed := true }
def ReceiptBytesUptoSaid : Prop := receiptBytesUptoRow.holds Try.pinned (OpenSpec.upto receiptBytesSpec)

/-- 'umbralaw29.FilmPixels', WHERE WHAT IT READS IS OF BULK AT MOST 1048576: true; the input reads as it did. -/
def filmPixelsUptoRow : OpenClaim := { program := "ytcaadpceoajapaa", sum := "61e57a4127a050f847d7a7ecd40190cbb7a7465994bbd248273cf9ddeb96ebd5", func := "umbra/umbralaw29.FilmPixels", spec := "filmPixels", inPlace := ["math/bits.Sub64", "math/bits.Add64"], unfollowed := true, recurses := true, named := ["math/bits.divideError", "math/bits.overflowError"], apart := false, narrowed := true }
def FilmPixelsUptoSaid : Prop := filmPixelsUptoRow.holds Try.pinned (OpenSpec.upto filmPixelsSpec)

/-- 'umbralaw42.FilterFlat', WHERE WHAT IT READS IS OF BULK AT MOST 1048576: true; the input reads as it did. -/
def filterFlatUptoRow : OpenClaim := { program := "ytcaadpceoajapaa", sum := "61e57a4127a050f847d7a7ecd40190cbb7a7465994bbd248273cf9ddeb96ebd5", func := "umbra/umbralaw42.FilterFlat", spec := "filterFlat", unfollowed := true, recurses := true, apart := false, narrowed := true }
def FilterFlatUptoSaid : Prop := filterFlatUptoRow.holds Try.pinned (OpenSpec.upto filterFlatSpec)

/-- 'umbralaw42.FilterSizes', WHERE WHAT IT READS IS OF BULK AT MOST 1048576: true; the input reads as it did. -/
def filterSizesUptoRow : OpenClaim := { program := "ytcaadpceoajapaa", sum := "61e57a4127a050f847d7a7ecd40190cbb7a7465994bbd248273cf9ddeb96ebd5", func := "umbra/umbralaw42.FilterSizes", spec := "filterSizes", unfollowed := true, recurses := true, apart := false, narrowed := true }
def FilterSizesUptoSaid : Prop := filterSizesUptoRow.holds Try.pinned (OpenSpec.upto filterSizesSpec)

/-- 'umbralaw42.FilterTurns', WHERE WHAT IT READS IS OF BULK AT MOST 1048576: true; the input reads as it did. -/
def filterTurnsUptoRow : OpenClaim := { program := "ytcaadpceoajapaa", sum := "61e57a4127a050f847d7a7ecd40190cbb7a7465994bbd248273cf9ddeb96ebd5", func := "umbra/umbralaw42.FilterTurns", spec := "filterTurns", unfollowed := true, recurses := true, apart := false, narrowed := true }
def FilterTurnsUptoSaid : Prop := filterTurnsUptoRow.holds Try.pinned (OpenSpec.upto filterTurnsSpec)

/-- 'umbralaw37.ReceiptAudits', WHERE WHAT IT READS IS OF BULK AT MOST 1048576: true; the input reads as it did. -/
def receiptAuditsUptoRow : OpenClaim := { program := "ytcaadpceoajapaa", sum := "61e57a4127a050f847d7a7ecd40190cbb7a7465994bbd248273cf9ddeb96ebd5", func := "umbra/umbralaw37.ReceiptAudits", spec := "receiptAudits", unfollowed := true, recurses := true, apart := false, narrowed := true }
def ReceiptAuditsUptoSaid : Prop := receiptAuditsUptoRow.holds Try.pinned (OpenSpec.upto receiptAuditsSpec)

/-- 'umbralaw37.ReceiptStands', WHERE WHAT IT READS IS OF BULK AT MOST 1048576: true; the input reads as it did. -/
def receiptStandsUptoRow : OpenClaim := { program := "ytcaadpceoajapaa", sum := "61e57a4127a050f847d7a7ecd40190cbb7a7465994bbd248273cf9ddeb96ebd5", func := "umbra/umbralaw37.ReceiptStands", spec := "receiptStands", unfollowed := true, recurses := true, apart := false, narrowed := true }
def ReceiptStandsUptoSaid : Prop := receiptStandsUptoRow.holds Try.pinned (OpenSpec.upto receiptStandsSpec)

end Rows
end Go.Proofs.Ytcaadpceoajapaa
