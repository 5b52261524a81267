/- A part of the proof: what the functions of the program compute. -/
import Derived.Test.YtbfieohdmihfpaaGreatDoorRows
import Derived.LaidByTextLater
import Derived.SevenTiedAt
namespace Go.UK
open Go Go.Proofs Go.Proofs.YtbfieohdmihfpaaGreatDoor
set_option linter.all false
theorem tie_h(os:Os)(tape:Tape):(DataW.laidRun Tryz.prog (varsWorld Tryz.prog 400 (varsId Tryz.prog) os tape).memory 8 (([("unicode/utf8.acceptRanges",Go.Proofs.YtbfieohdmihfpaaGreatDoor.Rows.laid_unicode_utf8_acceptRanges),("strconv.ErrSyntax",Go.Proofs.YtbfieohdmihfpaaGreatDoor.Rows.laid_strconv_ErrSyntax),("strconv.ErrRange",Go.Proofs.YtbfieohdmihfpaaGreatDoor.Rows.laid_strconv_ErrRange),("internal/strconv.uint64pow10",Go.Proofs.YtbfieohdmihfpaaGreatDoor.Rows.laid_internal_strconv_uint64pow10),("math/bits.deBruijn32tab",Go.Proofs.YtbfieohdmihfpaaGreatDoor.Rows.laid_math_bits_deBruijn32tab),("math/bits.deBruijn64tab",Go.Proofs.YtbfieohdmihfpaaGreatDoor.Rows.laid_math_bits_deBruijn64tab)]:List (String×DataW Unit)).map (·.1))).map (·.1)=some [("unicode/utf8.acceptRanges",Go.Proofs.YtbfieohdmihfpaaGreatDoor.Rows.laid_unicode_utf8_acceptRanges),("strconv.ErrSyntax",Go.Proofs.YtbfieohdmihfpaaGreatDoor.Rows.laid_strconv_ErrSyntax),("strconv.ErrRange",Go.Proofs.YtbfieohdmihfpaaGreatDoor.Rows.laid_strconv_ErrRange),("internal/strconv.uint64pow10",Go.Proofs.YtbfieohdmihfpaaGreatDoor.Rows.laid_internal_strconv_uint64pow10),("math/bits.deBruijn32tab",Go.Proofs.YtbfieohdmihfpaaGreatDoor.Rows.laid_math_bits_deBruijn32tab),("math/bits.deBruijn64tab",Go.Proofs.YtbfieohdmihfpaaGreatDoor.Rows.laid_math_bits_deBruijn64tab)]:=by kernel_rfl
end Go.UK
