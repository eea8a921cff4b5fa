/- What the functions of this program answer, part clmq. -/
import Derived.Test.YthgekoledembcaaGreatRows
import Derived.Test.YthgekoledembcaaGreatChecked
import Derived.ProofKit
namespace Go.Proofs.YthgekoledembcaaGreat
open Go Go.ChangeShapes Go.WideShapes Go.ChangeAt Go.RowKit
theorem jn8 : Tryz.pinned.checked.prog.funcNamed Rows.fnExactCalmRow.func = some 8 := by kernel_rfl
theorem jf8 : joinedFacts Tryz.pinned.checked.prog 8 Tryz.f8 Rows.fnExactCalmSpec Rows.fnExactCalmRow = true := by kernel_rfl
theorem ji8 : Tryz.f8.isInstance Tryz.pinned.checked.prog Rows.fnExactCalmRow.origin Rows.fnExactCalmRow.targs := of_decide_eq_true (by kernel_rfl)
theorem jw8 : Tryz.f8.isWrapper Tryz.pinned.checked.prog Rows.fnExactCalmRow.wrapper Rows.fnExactCalmRow.mainSum := by unfold Func.isWrapper; first | (rw [if_pos (by decide +kernel)]; kernel_rfl) | (rw [if_neg (by decide +kernel)]; exact ⟨rfl, rfl⟩)
end Go.Proofs.YthgekoledembcaaGreat
