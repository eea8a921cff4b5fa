/- What the functions of this program answer, part jalq. -/
import Derived.Test.YtcmcnofamieegaaGreatRows
import Derived.Test.YtcmcnofamieegaaGreatChecked
import Derived.ProofKit
namespace Go.Proofs.YtcmcnofamieegaaGreat
open Go Go.ChangeShapes Go.WideShapes Go.ChangeAt Go.RowKit
theorem jn11 : Tryz.pinned.checked.prog.funcNamed Rows.fnExactJudgeAllRow.func = some 11 := by kernel_rfl
theorem jf11 : joinedFacts Tryz.pinned.checked.prog 11 Tryz.f11 Rows.fnExactJudgeAllSpec Rows.fnExactJudgeAllRow = true := by kernel_rfl
theorem ji11 : Tryz.f11.isInstance Tryz.pinned.checked.prog Rows.fnExactJudgeAllRow.origin Rows.fnExactJudgeAllRow.targs := of_decide_eq_true (by kernel_rfl)
theorem jw11 : Tryz.f11.isWrapper Tryz.pinned.checked.prog Rows.fnExactJudgeAllRow.wrapper Rows.fnExactJudgeAllRow.mainSum := by unfold Func.isWrapper; first | (rw [if_pos (by decide +kernel)]; kernel_rfl) | (rw [if_neg (by decide +kernel)]; exact ⟨rfl, rfl⟩)
end Go.Proofs.YtcmcnofamieegaaGreat
