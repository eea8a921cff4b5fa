/- What the functions of this program answer, part k. -/
import Derived.Test.YthgekoledembcaaGreatXj
set_option linter.unusedVariables false
namespace Go.Abs.Gz
open Go Go.Abs
end Go.Abs.Gz
