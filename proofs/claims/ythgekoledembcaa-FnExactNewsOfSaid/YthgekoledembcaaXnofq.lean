/- What the functions of this program answer, part nofq. -/
import Derived.Test.YthgekoledembcaaRows
import Derived.Test.YthgekoledembcaaChecked
import Derived.ProofKit
namespace Go.Proofs.Ythgekoledembcaa
open Go Go.ChangeShapes Go.WideShapes Go.ChangeAt Go.RowKit
theorem jn5 : Try.pinned.checked.prog.funcNamed Rows.fnExactNewsOfRow.func = some 5 := by kernel_rfl
theorem jf5 : joinedFacts Try.pinned.checked.prog 5 Try.f5 Rows.fnExactNewsOfSpec Rows.fnExactNewsOfRow = true := by kernel_rfl
theorem ji5 : Try.f5.isInstance Try.pinned.checked.prog Rows.fnExactNewsOfRow.origin Rows.fnExactNewsOfRow.targs := of_decide_eq_true (by kernel_rfl)
theorem jw5 : Try.f5.isWrapper Try.pinned.checked.prog Rows.fnExactNewsOfRow.wrapper Rows.fnExactNewsOfRow.mainSum := by unfold Func.isWrapper; first | (rw [if_pos (by decide +kernel)]; kernel_rfl) | (rw [if_neg (by decide +kernel)]; exact ⟨rfl, rfl⟩)
end Go.Proofs.Ythgekoledembcaa
