/- What the functions of this program answer, part m. -/
import Derived.Test.YtfhgecdbldmekaaGreatXr0
import Derived.Test.YtfhgecdbldmekaaGreatXr1
import Derived.Test.YtfhgecdbldmekaaGreatXr2
import Derived.Test.YtfhgecdbldmekaaGreatW3
set_option linter.unusedVariables false
set_option linter.unusedSimpArgs false
namespace Go.Abs.Pz
open Go Go.Abs
end Go.Abs.Pz
