/- What the functions of this program answer, part sbyq. -/
import Derived.Test.YthgekoledembcaaGreatRows
import Derived.Test.YthgekoledembcaaGreatChecked
import Derived.ProofKit
namespace Go.Proofs.YthgekoledembcaaGreat
open Go Go.ChangeShapes Go.WideShapes Go.ChangeAt Go.RowKit
theorem jn7 : Tryz.pinned.checked.prog.funcNamed Rows.fnExactSaidByRow.func = some 7 := by kernel_rfl
theorem jf7 : joinedFacts Tryz.pinned.checked.prog 7 Tryz.f7 Rows.fnExactSaidBySpec Rows.fnExactSaidByRow = true := by kernel_rfl
theorem ji7 : Tryz.f7.isInstance Tryz.pinned.checked.prog Rows.fnExactSaidByRow.origin Rows.fnExactSaidByRow.targs := of_decide_eq_true (by kernel_rfl)
theorem jw7 : Tryz.f7.isWrapper Tryz.pinned.checked.prog Rows.fnExactSaidByRow.wrapper Rows.fnExactSaidByRow.mainSum := by unfold Func.isWrapper; first | (rw [if_pos (by decide +kernel)]; kernel_rfl) | (rw [if_neg (by decide +kernel)]; exact ⟨rfl, rfl⟩)
end Go.Proofs.YthgekoledembcaaGreat
