/- What the functions of this program answer, part allq. -/
import Derived.Test.YthgekoledembcaaGreatRows
import Derived.Test.YthgekoledembcaaGreatChecked
import Derived.ProofKit
namespace Go.Proofs.YthgekoledembcaaGreat
open Go Go.ChangeShapes Go.WideShapes Go.ChangeAt Go.RowKit
theorem jn5 : Tryz.pinned.checked.prog.funcNamed Rows.fnExactAllRow.func = some 5 := by kernel_rfl
theorem jf5 : joinedFacts Tryz.pinned.checked.prog 5 Tryz.f5 Rows.fnExactAllSpec Rows.fnExactAllRow = true := by kernel_rfl
theorem ji5 : Tryz.f5.isInstance Tryz.pinned.checked.prog Rows.fnExactAllRow.origin Rows.fnExactAllRow.targs := of_decide_eq_true (by kernel_rfl)
theorem jw5 : Tryz.f5.isWrapper Tryz.pinned.checked.prog Rows.fnExactAllRow.wrapper Rows.fnExactAllRow.mainSum := by unfold Func.isWrapper; first | (rw [if_pos (by decide +kernel)]; kernel_rfl) | (rw [if_neg (by decide +kernel)]; exact ⟨rfl, rfl⟩)
end Go.Proofs.YthgekoledembcaaGreat
