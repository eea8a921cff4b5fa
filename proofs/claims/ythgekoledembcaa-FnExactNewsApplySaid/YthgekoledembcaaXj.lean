/- What the functions of this program answer, part j. -/
import Derived.Test.YthgekoledembcaaXh
import Derived.Test.YthgekoledembcaaW2
set_option linter.unusedVariables false
namespace Go.Abs.Nz
open Go Go.Abs
theorem bitI_le (b : Bool) : 0 ≤ bitI b ∧ bitI b ≤ 1 := by cases b <;> decide
end Go.Abs.Nz
