/- What the functions of this program answer, part f. -/
import Derived.Test.YthgekoledembcaaGreatXe
import Derived.Test.YthgekoledembcaaGreatW2
set_option linter.unusedVariables false
namespace Go.Abs.Gz
open Go Go.Abs
end Go.Abs.Gz
