/- What the functions of this program answer, part a. -/
import Derived.Test.YthhpkmbhjghidaaGreatXr0
import Derived.Test.YthhpkmbhjghidaaGreatXr1
import Derived.Test.YthhpkmbhjghidaaGreatW3
set_option linter.unusedVariables false
set_option linter.unusedSimpArgs false
namespace Go.Abs.Uz
open Go Go.Abs
end Go.Abs.Uz
