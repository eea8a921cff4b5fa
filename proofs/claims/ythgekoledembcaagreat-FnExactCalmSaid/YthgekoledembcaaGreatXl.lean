/- What the functions of this program answer, part l. -/
import Derived.Test.YthgekoledembcaaGreatXk
import Derived.Test.YthgekoledembcaaGreatXa
import Derived.Test.YthgekoledembcaaGreatXm
import Derived.Test.YthgekoledembcaaGreatW2
set_option linter.unusedVariables false
namespace Go.Abs.Gz
open Go Go.Abs
theorem items_lm (xs : List ItemT) (h : xs.length ≤ 4611686018427387904) : LmT (.sl K139) xs := ⟨h, fun i r _ => ⟨trivial, trivial, trivial, trivial, trivial, trivial, trivial⟩⟩
theorem floors_lm (xs : List FloorT) (h : xs.length ≤ 4611686018427387904) : LmT (.sl K143) xs := ⟨h, fun i r _ => ⟨trivial, trivial, trivial⟩⟩
theorem nums_lm (xs : List NumT) (h : xs.length ≤ 4611686018427387904) : LmT (.sl K3) xs := ⟨h, fun i r _ => ⟨trivial, trivial⟩⟩
theorem state_lm (s : StateT) (h : SzS s) : LmR K49 s := ⟨items_lm s.1 (Nat.le_trans h.1 (by decide)), floors_lm s.2.1 (Nat.le_trans h.2 (by decide)), trivial⟩
end Go.Abs.Gz
