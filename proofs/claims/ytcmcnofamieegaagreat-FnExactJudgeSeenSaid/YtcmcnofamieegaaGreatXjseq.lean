/- What the functions of this program answer, part jseq. -/
import Derived.Test.YtcmcnofamieegaaGreatRows
import Derived.Test.YtcmcnofamieegaaGreatChecked
import Derived.ProofKit
namespace Go.Proofs.YtcmcnofamieegaaGreat
open Go Go.ChangeShapes Go.WideShapes Go.ChangeAt Go.RowKit
theorem jn4 : Tryz.pinned.checked.prog.funcNamed Rows.fnExactJudgeSeenRow.func = some 4 := by kernel_rfl
theorem jf4 : joinedFacts Tryz.pinned.checked.prog 4 Tryz.f4 Rows.fnExactJudgeSeenSpec Rows.fnExactJudgeSeenRow = true := by kernel_rfl
theorem ji4 : Tryz.f4.isInstance Tryz.pinned.checked.prog Rows.fnExactJudgeSeenRow.origin Rows.fnExactJudgeSeenRow.targs := of_decide_eq_true (by kernel_rfl)
theorem jw4 : Tryz.f4.isWrapper Tryz.pinned.checked.prog Rows.fnExactJudgeSeenRow.wrapper Rows.fnExactJudgeSeenRow.mainSum := by unfold Func.isWrapper; first | (rw [if_pos (by decide +kernel)]; kernel_rfl) | (rw [if_neg (by decide +kernel)]; exact ⟨rfl, rfl⟩)
end Go.Proofs.YtcmcnofamieegaaGreat
