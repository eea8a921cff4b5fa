/- What the functions of this program answer, part m. -/
import Derived.Test.YtmamlgjbendjhaaGreatW3
import Derived.Test.YtmamlgjbendjhaaGreatXr0
import Derived.Test.YtmamlgjbendjhaaGreatXr1
set_option linter.unusedVariables false
set_option linter.unusedSimpArgs false
namespace Go.Abs.Xz
open Go Go.Abs
end Go.Abs.Xz
