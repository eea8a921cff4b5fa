/- What the functions of this program answer, part jviq. -/
import Derived.Test.YtcmcnofamieegaaGreatRows
import Derived.Test.YtcmcnofamieegaaGreatChecked
import Derived.ProofKit
namespace Go.Proofs.YtcmcnofamieegaaGreat
open Go Go.ChangeShapes Go.WideShapes Go.ChangeAt Go.RowKit
theorem jn10 : Tryz.pinned.checked.prog.funcNamed Rows.fnExactJudgeViewsRow.func = some 10 := by kernel_rfl
theorem jf10 : joinedFacts Tryz.pinned.checked.prog 10 Tryz.f10 Rows.fnExactJudgeViewsSpec Rows.fnExactJudgeViewsRow = true := by kernel_rfl
theorem ji10 : Tryz.f10.isInstance Tryz.pinned.checked.prog Rows.fnExactJudgeViewsRow.origin Rows.fnExactJudgeViewsRow.targs := of_decide_eq_true (by kernel_rfl)
theorem jw10 : Tryz.f10.isWrapper Tryz.pinned.checked.prog Rows.fnExactJudgeViewsRow.wrapper Rows.fnExactJudgeViewsRow.mainSum := by unfold Func.isWrapper; first | (rw [if_pos (by decide +kernel)]; kernel_rfl) | (rw [if_neg (by decide +kernel)]; exact ⟨rfl, rfl⟩)
end Go.Proofs.YtcmcnofamieegaaGreat
