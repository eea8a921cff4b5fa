/- What the functions of this program answer, part f. -/
import Derived.Test.YtmamlgjbendjhaaGreatXe
import Derived.Test.YtmamlgjbendjhaaGreatW2
set_option linter.unusedVariables false
namespace Go.Abs.Xz
open Go Go.Abs
end Go.Abs.Xz
