/- What the functions of this program answer, part ncnq. -/
import Derived.Test.YtbdgofceanjgpaaRows
import Derived.Test.YtbdgofceanjgpaaChecked
import Derived.ProofKit
namespace Go.Proofs.Ytbdgofceanjgpaa
open Go Go.ChangeShapes Go.WideShapes Go.ChangeAt Go.RowKit
theorem jn3 : Try.pinned.checked.prog.funcNamed Rows.fnNewsCountRow.func = some 3 := by kernel_rfl
theorem jf3 : joinedFacts Try.pinned.checked.prog 3 Try.f3 Rows.fnNewsCountSpec Rows.fnNewsCountRow = true := by kernel_rfl
theorem ji3 : Try.f3.isInstance Try.pinned.checked.prog Rows.fnNewsCountRow.origin Rows.fnNewsCountRow.targs := of_decide_eq_true (by kernel_rfl)
theorem jw3 : Try.f3.isWrapper Try.pinned.checked.prog Rows.fnNewsCountRow.wrapper Rows.fnNewsCountRow.mainSum := by unfold Func.isWrapper; first | (rw [if_pos (by decide +kernel)]; kernel_rfl) | (rw [if_neg (by decide +kernel)]; exact ⟨rfl, rfl⟩)
end Go.Proofs.Ytbdgofceanjgpaa
