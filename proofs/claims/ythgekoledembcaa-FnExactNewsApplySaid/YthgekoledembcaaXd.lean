/- What the functions of this program answer, part d. -/
import Derived.Test.YthgekoledembcaaXc
import Derived.Test.YthgekoledembcaaW2
set_option linter.unusedVariables false
namespace Go.Abs.Nz
open Go Go.Abs
abbrev oL (l : List NumT) : Option Out := some ⟨[⟨K36, (l, ())⟩], []⟩
theorem len1000 {k : Nat} (h : k ≤ 5) : k ≤ maxLen := by show k ≤ 9223372036854775807; omega
theorem part_num {x : Int} {L : Nat} (h : 5 ≤ L) : (putNum x).length ≤ L := Nat.le_trans (putNum_len x) h
end Go.Abs.Nz
