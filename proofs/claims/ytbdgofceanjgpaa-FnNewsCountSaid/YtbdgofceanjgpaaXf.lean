/- What the functions of this program answer, part f. -/
import Derived.Test.YtbdgofceanjgpaaXe
import Derived.Test.YtbdgofceanjgpaaW2
set_option linter.unusedVariables false
namespace Go.Abs.Pz
open Go Go.Abs
end Go.Abs.Pz
