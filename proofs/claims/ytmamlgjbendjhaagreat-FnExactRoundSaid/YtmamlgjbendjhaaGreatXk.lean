/- What the functions of this program answer, part k. -/
import Derived.Test.YtmamlgjbendjhaaGreatXj
set_option linter.unusedVariables false
namespace Go.Abs.Xz
open Go Go.Abs
end Go.Abs.Xz
