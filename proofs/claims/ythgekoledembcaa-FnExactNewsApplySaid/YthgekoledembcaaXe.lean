/- What the functions of this program answer, part e. -/
import Derived.Test.YthgekoledembcaaXd
set_option linter.unusedVariables false
namespace Go.Abs.Nz
open Go Go.Abs
theorem and_bif {α : Type} {a b : Bool} {F R : α} : (bif a then (bif !b then F else R) else F) = bif a && b then R else F := by cases a <;> cases b <;> rfl
theorem two {α : Type} {a b : Bool} {X R : α} : (bif a then (bif b then X else R) else R) = bif a && b then X else R := by cases a <;> cases b <;> rfl
theorem small_max {k : Nat} (h : k ≤ small) : k ≤ maxLen := Nat.le_trans h (by decide)
theorem small_lt {i k : Nat} (hi : i < k) (h : k ≤ small) : i < 9223372036854775807 := Nat.lt_of_lt_of_le hi (Nat.le_trans h (by decide))

theorem id_lt {nd : NodeT} (h1 : inB nd.2.1 1 5 = true) (h2 : inB nd.1 0 (IntKind.i64.wrap (nd.2.1 - 1)) = true) (h3 : vecOk nd.got nd.2.1 = true) : ∃ k : Nat, nd.1 = (k : Int) ∧ k < nd.got.length := by
  rw [inB_iff] at h1 h2
  rw [wrap64 (by omega) (by omega)] at h2
  unfold vecOk at h3; simp only [Bool.and_eq_true, beq_iff_eq] at h3
  exact ⟨nd.1.toNat, by omega, by omega⟩
end Go.Abs.Nz
