/- What the functions of this program answer, part c. -/
import Derived.Test.YthgekoledembcaaXb
import Derived.Test.YthgekoledembcaaW2
set_option linter.unusedVariables false
namespace Go.Abs.Nz
open Go Go.Abs
end Go.Abs.Nz
