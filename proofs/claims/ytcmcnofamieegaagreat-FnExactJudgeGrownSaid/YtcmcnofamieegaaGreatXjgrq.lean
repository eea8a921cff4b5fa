/- What the functions of this program answer, part jgrq. -/
import Derived.Test.YtcmcnofamieegaaGreatRows
import Derived.Test.YtcmcnofamieegaaGreatChecked
import Derived.ProofKit
namespace Go.Proofs.YtcmcnofamieegaaGreat
open Go Go.ChangeShapes Go.WideShapes Go.ChangeAt Go.RowKit
theorem jn9 : Tryz.pinned.checked.prog.funcNamed Rows.fnExactJudgeGrownRow.func = some 9 := by kernel_rfl
theorem jf9 : joinedFacts Tryz.pinned.checked.prog 9 Tryz.f9 Rows.fnExactJudgeGrownSpec Rows.fnExactJudgeGrownRow = true := by kernel_rfl
theorem ji9 : Tryz.f9.isInstance Tryz.pinned.checked.prog Rows.fnExactJudgeGrownRow.origin Rows.fnExactJudgeGrownRow.targs := of_decide_eq_true (by kernel_rfl)
theorem jw9 : Tryz.f9.isWrapper Tryz.pinned.checked.prog Rows.fnExactJudgeGrownRow.wrapper Rows.fnExactJudgeGrownRow.mainSum := by unfold Func.isWrapper; first | (rw [if_pos (by decide +kernel)]; kernel_rfl) | (rw [if_neg (by decide +kernel)]; exact ⟨rfl, rfl⟩)
end Go.Proofs.YtcmcnofamieegaaGreat
