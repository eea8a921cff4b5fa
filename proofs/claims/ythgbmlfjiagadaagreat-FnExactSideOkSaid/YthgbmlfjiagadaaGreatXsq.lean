/- What the functions of this program answer, part sq. -/
import Derived.Test.YthgbmlfjiagadaaGreatRows
import Derived.Test.YthgbmlfjiagadaaGreatChecked
import Derived.ProofKit
namespace Go.Proofs.YthgbmlfjiagadaaGreat
open Go Go.ChangeShapes Go.WideShapes Go.ChangeAt Go.RowKit
theorem jn5 : Tryz.pinned.checked.prog.funcNamed Rows.fnExactSideOkRow.func = some 5 := by kernel_rfl
theorem jf5 : joinedFacts Tryz.pinned.checked.prog 5 Tryz.f5 Rows.fnExactSideOkSpec Rows.fnExactSideOkRow = true := by kernel_rfl
theorem ji5 : Tryz.f5.isInstance Tryz.pinned.checked.prog Rows.fnExactSideOkRow.origin Rows.fnExactSideOkRow.targs := of_decide_eq_true (by kernel_rfl)
theorem jw5 : Tryz.f5.isWrapper Tryz.pinned.checked.prog Rows.fnExactSideOkRow.wrapper Rows.fnExactSideOkRow.mainSum := by unfold Func.isWrapper; first | (rw [if_pos (by decide +kernel)]; kernel_rfl) | (rw [if_neg (by decide +kernel)]; exact ⟨rfl, rfl⟩)
end Go.Proofs.YthgbmlfjiagadaaGreat
