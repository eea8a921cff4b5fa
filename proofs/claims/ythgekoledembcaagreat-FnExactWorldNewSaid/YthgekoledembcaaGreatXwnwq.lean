/- What the functions of this program answer, part wnwq. -/
import Derived.Test.YthgekoledembcaaGreatRows
import Derived.Test.YthgekoledembcaaGreatChecked
import Derived.ProofKit
namespace Go.Proofs.YthgekoledembcaaGreat
open Go Go.ChangeShapes Go.WideShapes Go.ChangeAt Go.RowKit
theorem jn3 : Tryz.pinned.checked.prog.funcNamed Rows.fnExactWorldNewRow.func = some 3 := by kernel_rfl
theorem jf3 : joinedFacts Tryz.pinned.checked.prog 3 Tryz.f3 Rows.fnExactWorldNewSpec Rows.fnExactWorldNewRow = true := by kernel_rfl
theorem ji3 : Tryz.f3.isInstance Tryz.pinned.checked.prog Rows.fnExactWorldNewRow.origin Rows.fnExactWorldNewRow.targs := of_decide_eq_true (by kernel_rfl)
theorem jw3 : Tryz.f3.isWrapper Tryz.pinned.checked.prog Rows.fnExactWorldNewRow.wrapper Rows.fnExactWorldNewRow.mainSum := by unfold Func.isWrapper; first | (rw [if_pos (by decide +kernel)]; kernel_rfl) | (rw [if_neg (by decide +kernel)]; exact ⟨rfl, rfl⟩)
end Go.Proofs.YthgekoledembcaaGreat
