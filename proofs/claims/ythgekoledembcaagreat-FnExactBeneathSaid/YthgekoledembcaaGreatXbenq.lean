/- What the functions of this program answer, part benq. -/
import Derived.Test.YthgekoledembcaaGreatRows
import Derived.Test.YthgekoledembcaaGreatChecked
import Derived.ProofKit
namespace Go.Proofs.YthgekoledembcaaGreat
open Go Go.ChangeShapes Go.WideShapes Go.ChangeAt Go.RowKit
theorem jn4 : Tryz.pinned.checked.prog.funcNamed Rows.fnExactBeneathRow.func = some 4 := by kernel_rfl
theorem jf4 : joinedFacts Tryz.pinned.checked.prog 4 Tryz.f4 Rows.fnExactBeneathSpec Rows.fnExactBeneathRow = true := by kernel_rfl
theorem ji4 : Tryz.f4.isInstance Tryz.pinned.checked.prog Rows.fnExactBeneathRow.origin Rows.fnExactBeneathRow.targs := of_decide_eq_true (by kernel_rfl)
theorem jw4 : Tryz.f4.isWrapper Tryz.pinned.checked.prog Rows.fnExactBeneathRow.wrapper Rows.fnExactBeneathRow.mainSum := by unfold Func.isWrapper; first | (rw [if_pos (by decide +kernel)]; kernel_rfl) | (rw [if_neg (by decide +kernel)]; exact ⟨rfl, rfl⟩)
end Go.Proofs.YthgekoledembcaaGreat
