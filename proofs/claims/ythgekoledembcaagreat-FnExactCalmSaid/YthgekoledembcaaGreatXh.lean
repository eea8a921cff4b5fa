/- What the functions of this program answer, part h. -/
import Derived.Test.YthgekoledembcaaGreatXf
import Derived.Test.YthgekoledembcaaGreatW2
set_option linter.unusedVariables false
namespace Go.Abs.Gz
open Go Go.Abs
end Go.Abs.Gz
