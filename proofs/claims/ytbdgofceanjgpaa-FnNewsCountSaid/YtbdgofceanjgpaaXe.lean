/- What the functions of this program answer, part e. -/
import Derived.Test.YtbdgofceanjgpaaXd
set_option linter.unusedVariables false
namespace Go.Abs.Pz
open Go Go.Abs
theorem small_max {k : Nat} (h : k ≤ small) : k ≤ maxLen := Nat.le_trans h (by decide)
theorem small_lt {i k : Nat} (hi : i < k) (h : k ≤ small) : i < 9223372036854775807 := Nat.lt_of_lt_of_le hi (Nat.le_trans h (by decide))

end Go.Abs.Pz
