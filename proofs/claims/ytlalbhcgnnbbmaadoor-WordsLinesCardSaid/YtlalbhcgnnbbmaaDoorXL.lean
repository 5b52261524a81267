/- A part of the proof: what the functions of the program compute. -/
import Derived.Test.YtlalbhcgnnbbmaaDoorX2
import Derived.Test.YtlalbhcgnnbbmaaDoorWO
namespace Go.UK
open Go Go.Proofs
set_option linter.all false
theorem wordsLinesFn (s : ByteArray) (os : s.size ≤ maxLen) : FnM Tryd.prog 3 [] [eS s] (eB true) [] := umbralaw43_WordsLines_ok (wordsLinesT s)
end Go.UK
