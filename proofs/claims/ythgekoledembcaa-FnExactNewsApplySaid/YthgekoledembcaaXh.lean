/- What the functions of this program answer, part h. -/
import Derived.Test.YthgekoledembcaaXf
import Derived.Test.YthgekoledembcaaW2
set_option linter.unusedVariables false
namespace Go.Abs.Nz
open Go Go.Abs
end Go.Abs.Nz
