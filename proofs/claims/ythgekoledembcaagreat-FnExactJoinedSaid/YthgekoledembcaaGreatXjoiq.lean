/- What the functions of this program answer, part joiq. -/
import Derived.Test.YthgekoledembcaaGreatRows
import Derived.Test.YthgekoledembcaaGreatChecked
import Derived.ProofKit
namespace Go.Proofs.YthgekoledembcaaGreat
open Go Go.ChangeShapes Go.WideShapes Go.ChangeAt Go.RowKit
theorem jn6 : Tryz.pinned.checked.prog.funcNamed Rows.fnExactJoinedRow.func = some 6 := by kernel_rfl
theorem jf6 : joinedFacts Tryz.pinned.checked.prog 6 Tryz.f6 Rows.fnExactJoinedSpec Rows.fnExactJoinedRow = true := by kernel_rfl
theorem ji6 : Tryz.f6.isInstance Tryz.pinned.checked.prog Rows.fnExactJoinedRow.origin Rows.fnExactJoinedRow.targs := of_decide_eq_true (by kernel_rfl)
theorem jw6 : Tryz.f6.isWrapper Tryz.pinned.checked.prog Rows.fnExactJoinedRow.wrapper Rows.fnExactJoinedRow.mainSum := by unfold Func.isWrapper; first | (rw [if_pos (by decide +kernel)]; kernel_rfl) | (rw [if_neg (by decide +kernel)]; exact ⟨rfl, rfl⟩)
end Go.Proofs.YthgekoledembcaaGreat
