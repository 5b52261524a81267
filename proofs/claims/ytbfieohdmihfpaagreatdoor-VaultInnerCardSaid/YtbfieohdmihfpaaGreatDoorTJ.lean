/- A part of the proof: what the functions of the program compute. -/
import Derived.Test.YtbfieohdmihfpaaGreatDoorTA
import Derived.Test.YtbfieohdmihfpaaGreatDoorTB
import Derived.Test.YtbfieohdmihfpaaGreatDoorTC
import Derived.Test.YtbfieohdmihfpaaGreatDoorTD
import Derived.Test.YtbfieohdmihfpaaGreatDoorTE
import Derived.Test.YtbfieohdmihfpaaGreatDoorTF
import Derived.Test.YtbfieohdmihfpaaGreatDoorTG
import Derived.Test.YtbfieohdmihfpaaGreatDoorTH
import Derived.Test.YtbfieohdmihfpaaGreatDoorTI
import Derived.Test.YtbfieohdmihfpaaGreatDoorSE
import Derived.Test.YtbfieohdmihfpaaGreatDoorRows
import Derived.LaidByTextLater
import Derived.SevenTiedAt
namespace Go.UK
open Go Go.Proofs Go.Proofs.YtbfieohdmihfpaaGreatDoor
set_option linter.all false
set_option maxRecDepth 20000
theorem aU1 : Tryz.prog.laidByTextLater [("unicode/utf8.acceptRanges",Go.Proofs.YtbfieohdmihfpaaGreatDoor.Rows.laid_unicode_utf8_acceptRanges),("strconv.ErrSyntax",Go.Proofs.YtbfieohdmihfpaaGreatDoor.Rows.laid_strconv_ErrSyntax),("strconv.ErrRange",Go.Proofs.YtbfieohdmihfpaaGreatDoor.Rows.laid_strconv_ErrRange),("internal/strconv.uint64pow10",Go.Proofs.YtbfieohdmihfpaaGreatDoor.Rows.laid_internal_strconv_uint64pow10),("math/bits.deBruijn32tab",Go.Proofs.YtbfieohdmihfpaaGreatDoor.Rows.laid_math_bits_deBruijn32tab),("math/bits.deBruijn64tab",Go.Proofs.YtbfieohdmihfpaaGreatDoor.Rows.laid_math_bits_deBruijn64tab)] [.data,.sentinel,.sentinel,.data,.data,.data] true:=Program.laidByTextLater_by_run 400 8 tie_a tie_b tie_c tie_d tie_e tie_f tie_g tie_h tie_i
theorem aSl : Go.Proofs.YtbfieohdmihfpaaGreatDoor.Rows.vaultInnerRow.laidByTextAt .later Tryz.pinned [.pinned,.data,.sentinel,.sentinel,.data,.data,.data] true:=
 OpenClaim.laidByTextAt_pinned rfl rfl aU1 rfl rfl rfl rfl (λy hy _e=>by
  simp only[Go.Proofs.YtbfieohdmihfpaaGreatDoor.Rows.vaultInnerRow,List.zip_cons_cons,List.zip_nil_right,List.mem_cons,List.mem_nil_iff,or_false] at hy;rcases hy with rfl | rfl | rfl | rfl | rfl | rfl | rfl
  ·exact⟨xY,by kernel_rfl⟩
  ·cases _e
  ·cases _e
  ·cases _e
  ·cases _e
  ·cases _e
  ·cases _e) fits1
end Go.UK
