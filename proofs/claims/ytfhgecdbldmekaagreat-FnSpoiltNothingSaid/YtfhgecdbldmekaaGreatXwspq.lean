/- What the functions of this program answer, part wspq. -/
import Derived.Test.YtfhgecdbldmekaaGreatRows
import Derived.Test.YtfhgecdbldmekaaGreatChecked
import Derived.ProofKit
namespace Go.Proofs.YtfhgecdbldmekaaGreat
open Go Go.ChangeShapes Go.WideShapes Go.ChangeAt Go.RowKit
theorem jn5:Tryz.pinned.checked.prog.funcNamed Rows.fnSpoiltNothingRow.func=some 5:=by kernel_rfl
theorem VN{a b:Bool}(ha:a=true)(hb:b=true):(a&&b)=true:=by rw[ha,hb];rfl
set_option maxHeartbeats 100000000 in
theorem jf5:joinedFacts Tryz.pinned.checked.prog 5 Tryz.f5 Rows.fnSpoiltNothingSpec Rows.fnSpoiltNothingRow=true:=by
 unfold joinedFacts
 repeat' with_reducible refine VN ?_ ?_
 all_goals as_aux_lemma=>kernel_rfl
theorem ji5:Tryz.f5.isInstance Tryz.pinned.checked.prog Rows.fnSpoiltNothingRow.origin Rows.fnSpoiltNothingRow.targs:=of_decide_eq_true (by kernel_rfl)
theorem jw5:Tryz.f5.isWrapper Tryz.pinned.checked.prog Rows.fnSpoiltNothingRow.wrapper Rows.fnSpoiltNothingRow.mainSum:=by unfold Func.isWrapper;first | (rw[if_pos (by decide+kernel)];kernel_rfl) | (rw[if_neg (by decide+kernel)];exact⟨rfl,rfl⟩)
end Go.Proofs.YtfhgecdbldmekaaGreat
