/- What the functions of this program answer, part a. -/
import Derived.Test.YtohahjehdododaaGreatXr0
import Derived.Test.YtohahjehdododaaGreatXr1
import Derived.Test.YtohahjehdododaaGreatW2
set_option linter.unusedVariables false
set_option linter.unusedSimpArgs false
namespace Go.Abs.Wz
open Go Go.Abs

end Go.Abs.Wz
