/- What the functions of this program answer, part l. -/
import Derived.Test.YthgekoledembcaaGreatXk
import Derived.Test.YthgekoledembcaaGreatXa
import Derived.Test.YthgekoledembcaaGreatXm
import Derived.Test.YthgekoledembcaaGreatW2
set_option linter.unusedVariables false
namespace Go.Abs.Gz
open Go Go.Abs
theorem items_lm (xs : List ItemT) (h : xs.length ≤ 4611686018427387904) : LmT (.sl K139) xs := ⟨h, fun i r _ => ⟨trivial, trivial, trivial, trivial, trivial, trivial, trivial⟩⟩
theorem floors_lm (xs : List FloorT) (h : xs.length ≤ 4611686018427387904) : LmT (.sl K143) xs := ⟨h, fun i r _ => ⟨trivial, trivial, trivial⟩⟩
theorem nums_lm (xs : List NumT) (h : xs.length ≤ 4611686018427387904) : LmT (.sl K3) xs := ⟨h, fun i r _ => ⟨trivial, trivial⟩⟩
theorem items_cn (xs : List ItemT) : cnT (.sl K139) xs = 6 * ((xs.length : Nat) : Int) := sumI_const (c := cnR K139) (n := 6) (fun x => rfl) xs
theorem floors_cn (xs : List FloorT) : cnT (.sl K143) xs = 2 * ((xs.length : Nat) : Int) := sumI_const (c := cnR K143) (n := 2) (fun x => rfl) xs
theorem nums_cn (xs : List NumT) : cnT (.sl K3) xs = 1 * ((xs.length : Nat) : Int) := sumI_const (c := cnR K3) (n := 1) (fun x => rfl) xs
theorem state_lm (s : StateT) (h : SzS s) : LmR K49 s := ⟨items_lm s.1 (Nat.le_trans h.1 (by decide)), floors_lm s.2.1 (Nat.le_trans h.2 (by decide)), trivial⟩
theorem state_cn (s : StateT) (h : SzS s) : cnS K49 s ≤ 1000000000000 := by
  have e : cnS K49 s = cnT (.sl K139) s.1 + (cnT (.sl K143) s.2.1 + 0) := rfl
  have h1 : s.1.length ≤ 1048576 := h.1
  have h2 : s.2.1.length ≤ 1048576 := h.2
  rw [e, items_cn, floors_cn]; omega
end Go.Abs.Gz
