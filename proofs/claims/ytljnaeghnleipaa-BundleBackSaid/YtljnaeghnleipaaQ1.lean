/- A part of the proof: what the functions of the program compute. -/
import Derived.Test.YtljnaeghnleipaaQ0
namespace Go.UK
open Go
variable [Globs]
set_option linter.all false
end Go.UK

