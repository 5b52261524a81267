/- A part of the proof: what the functions of the program compute. -/
import Derived.Test.YtbfieohdmihfpaaGreatDoorRows
import Derived.LaidByTextLater
import Derived.SevenTiedAt
namespace Go.UK
open Go Go.Proofs Go.Proofs.YtbfieohdmihfpaaGreatDoor
set_option linter.all false
theorem xY : Tryz.pinned.checked.prog.pinnedFits "unicode/utf8.first" = true:=by kernel_rfl
theorem aLX : Tryz.pinned.checked.prog.headLifts.contains "ownunsafe" = false:=by kernel_rfl
theorem fits1 : Tryz.pinned.checked.prog.listedFits [("unicode/utf8.first",Go.Proofs.YtbfieohdmihfpaaGreatDoor.Rows.laid_unicode_utf8_first),("unicode/utf8.acceptRanges",Go.Proofs.YtbfieohdmihfpaaGreatDoor.Rows.laid_unicode_utf8_acceptRanges),("strconv.ErrSyntax",Go.Proofs.YtbfieohdmihfpaaGreatDoor.Rows.laid_strconv_ErrSyntax),("strconv.ErrRange",Go.Proofs.YtbfieohdmihfpaaGreatDoor.Rows.laid_strconv_ErrRange),("internal/strconv.uint64pow10",Go.Proofs.YtbfieohdmihfpaaGreatDoor.Rows.laid_internal_strconv_uint64pow10),("math/bits.deBruijn32tab",Go.Proofs.YtbfieohdmihfpaaGreatDoor.Rows.laid_math_bits_deBruijn32tab),("math/bits.deBruijn64tab",Go.Proofs.YtbfieohdmihfpaaGreatDoor.Rows.laid_math_bits_deBruijn64tab)]=true:=by
 unfold Program.listedFits;rw[aLX]
 kernel_rfl
theorem tie_d : ([("unicode/utf8.acceptRanges",Go.Proofs.YtbfieohdmihfpaaGreatDoor.Rows.laid_unicode_utf8_acceptRanges),("strconv.ErrSyntax",Go.Proofs.YtbfieohdmihfpaaGreatDoor.Rows.laid_strconv_ErrSyntax),("strconv.ErrRange",Go.Proofs.YtbfieohdmihfpaaGreatDoor.Rows.laid_strconv_ErrRange),("internal/strconv.uint64pow10",Go.Proofs.YtbfieohdmihfpaaGreatDoor.Rows.laid_internal_strconv_uint64pow10),("math/bits.deBruijn32tab",Go.Proofs.YtbfieohdmihfpaaGreatDoor.Rows.laid_math_bits_deBruijn32tab),("math/bits.deBruijn64tab",Go.Proofs.YtbfieohdmihfpaaGreatDoor.Rows.laid_math_bits_deBruijn64tab)]:List (String×DataW Unit)).map (λx=>Tryz.prog.kindOfLater x.1)=([.data,.sentinel,.sentinel,.data,.data,.data]:List LaidKind).map some:=by kernel_rfl
end Go.UK
