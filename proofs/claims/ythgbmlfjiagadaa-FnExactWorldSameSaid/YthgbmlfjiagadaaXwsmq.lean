/- What the functions of this program answer, part wsmq. -/
import Derived.Test.YthgbmlfjiagadaaRows
import Derived.Test.YthgbmlfjiagadaaChecked
import Derived.ProofKit
namespace Go.Proofs.Ythgbmlfjiagadaa
open Go Go.ChangeShapes Go.WideShapes Go.ChangeAt Go.RowKit
theorem jn6 : Try.pinned.checked.prog.funcNamed Rows.fnExactWorldSameRow.func = some 6 := by kernel_rfl
theorem jf6 : joinedFacts Try.pinned.checked.prog 6 Try.f6 Rows.fnExactWorldSameSpec Rows.fnExactWorldSameRow = true := by kernel_rfl
theorem ji6 : Try.f6.isInstance Try.pinned.checked.prog Rows.fnExactWorldSameRow.origin Rows.fnExactWorldSameRow.targs := of_decide_eq_true (by kernel_rfl)
theorem jw6 : Try.f6.isWrapper Try.pinned.checked.prog Rows.fnExactWorldSameRow.wrapper Rows.fnExactWorldSameRow.mainSum := by unfold Func.isWrapper; first | (rw [if_pos (by decide +kernel)]; kernel_rfl) | (rw [if_neg (by decide +kernel)]; exact ⟨rfl, rfl⟩)
end Go.Proofs.Ythgbmlfjiagadaa
